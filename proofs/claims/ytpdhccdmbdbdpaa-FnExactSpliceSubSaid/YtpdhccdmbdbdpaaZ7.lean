/- Words and contracts of this claim, put together out of several texts by a program of this session's. Conditions: each theorem's own premises. -/
import Derived.Test.YtpdhccdmbdbdpaaZ1
import Derived.Test.YtpdhccdmbdbdpaaZ3
import Derived.Test.YtpdhccdmbdbdpaaZ5
import Derived.Test.YtpdhccdmbdbdpaaZ6
import Derived.Test.YtpdhccdmbdbdpaaZ4
namespace Go.Proofs.Ytpdhccdmbdbdpaa.XA
open Go.RowKit Go.Proofs.YtpdhccdmbdbdpaaW.PrintWords Go.Proofs.YtpdhccdmbdbdpaaW.PrintLast Go.Proofs.YtpdhccdmbdbdpaaW.PrintMore XW
attribute [local go_sem] max2_int min2_int max_two min_two max_three min_three max_four min_four   -- for this text's walks alone
set_option linter.unusedVariables false
set_option linter.unusedSimpArgs false
set_option maxHeartbeats 8000000
set_option maxRecDepth 100000
mutual
def impl_splice.l0 : Nat → List Int → List Int → Int → Int → Int → Int → List (S43) → Int → Int → List (S43) → Int → Int → List (Int × Int) → Option (Int × Int × (List (S43)) × Int)
 | 0, _, _, _, _, _, _, _, _, _, _, _, _, _ => none
 | k + 1, x6, x55, x56, x57, x380000, x380001, x380002, x381000, x381001, x381002, x387000, x387001, x388000 => if x57 < x56 then (if 0 ≤ x57 then (if x57 < (x55.length : Int) then ((slices_Contains_int_int.f k x6 (rd x55 x57)).bind fun t10 => (if t10 = true then (impl_splice.l0 k x6 x55 x56 (wrap64 (x57 + 1)) x380000 x380001 x380002 x381000 x381001 x381002 x387000 x387001 (XM.put x388000 (rd x55 x57) (rd x55 x57))) else (impl_splice.l0 k x6 x55 x56 (wrap64 (x57 + 1)) x380000 x380001 x380002 x381000 x381001 x381002 x387000 (wrap64 (x387001 + 1)) (XM.put (XM.put x388000 (rd x55 x57) (rd x55 x57)) (rd x55 x57) x387001)))) else (none)) else (none)) else (impl_splice.l1 k x6 x380002 (x380002.length : Int) 0 x381000 x381001 x381002 x387000 x387001 ([] : List (S43)) x388000)
def impl_splice.l1 : Nat → List Int → List (S43) → Int → Int → Int → Int → List (S43) → Int → Int → List (S43) → List (Int × Int) → Option (Int × Int × (List (S43)) × Int)
 | 0, _, _, _, _, _, _, _, _, _, _, _ => none
 | k + 1, x6, x78, x79, x80, x381000, x381001, x381002, x387000, x387001, x387002, x388000 => if x80 < x79 then (if 0 ≤ x80 then (if x80 < (x78.length : Int) then ((slices_Contains_int_int.f k x6 ((rd_T43 x78 x80).f0)).bind fun t10 => (if t10 = true then (impl_splice.l1 k x6 x78 x79 (wrap64 (x80 + 1)) x381000 x381001 x381002 x387000 x387001 x387002 x388000) else ((impl_Node_copied.f ((rd_T43 x78 x80).f0) ((rd_T43 x78 x80).f1) ((rd_T43 x78 x80).f2) ((rd_T43 x78 x80).f3) ((rd_T43 x78 x80).f4)).bind fun bt396 => (if x387002.length < 2199023255552 then (impl_splice.l1 k x6 x78 x79 (wrap64 (x80 + 1)) x381000 x381001 x381002 x387000 x387001 (x387002 ++ [(⟨bt396.1, bt396.2.1, bt396.2.2.1, bt396.2.2.2.1, bt396.2.2.2.2⟩ : S43)]) x388000) else (none))))) else (none)) else (none)) else (impl_splice.l2 k x381002 (x381002.length : Int) 0 x387000 x387001 x387002 x388000)
def impl_splice.l2 : Nat → List (S43) → Int → Int → Int → Int → List (S43) → List (Int × Int) → Option (Int × Int × (List (S43)) × Int)
 | 0, _, _, _, _, _, _, _ => none
 | k + 1, x98, x99, x100, x387000, x387001, x387002, x388000 => if x100 < x99 then (if 0 ≤ x100 then (if x100 < (x98.length : Int) then ((impl_Node_copied.f ((rd_T43 x98 x100).f0) ((rd_T43 x98 x100).f1) ((rd_T43 x98 x100).f2) ((rd_T43 x98 x100).f3) ((rd_T43 x98 x100).f4)).bind fun bt408 => (impl_splice.l3 k x98 x99 x100 (bt408.2.2.2.2.length : Int) 0 x387000 x387001 x387002 x388000 (XM.get (0 : Int) x388000 bt408.1) bt408.2.1 bt408.2.2.1 bt408.2.2.2.1 bt408.2.2.2.2)) else (none)) else (none)) else ((impl_Doc_sort.f x387000 x387001 x387002).bind fun t10 => ((impl_Doc_isDeep.f k x387000 x387001 t10).bind fun t11 => (if t11 = true then (some (0, 0, ([] : List (S43)), 11)) else (some (x387000, x387001, t10, 0)))))
def impl_splice.l3 : Nat → List (S43) → Int → Int → Int → Int → Int → Int → List (S43) → List (Int × Int) → Int → Int → Int → ByteArray → List Int → Option (Int × Int × (List (S43)) × Int)
 | 0, _, _, _, _, _, _, _, _, _, _, _, _, _, _ => none
 | k + 1, x98, x99, x100, x113, x114, x387000, x387001, x387002, x388000, x408000, x408001, x408002, x408003, x408004 => if x114 < x113 then (if 0 ≤ x114 then (if x114 < (x408004.length : Int) then (impl_splice.l3 k x98 x99 x100 x113 (wrap64 (x114 + 1)) x387000 x387001 x387002 x388000 x408000 x408001 x408002 x408003 (x408004.set (x114 : Int).toNat (XM.get (0 : Int) x388000 (rd x408004 x114)))) else (none)) else (none)) else (if x387002.length < 2199023255552 then (impl_splice.l2 k x98 x99 (wrap64 (x100 + 1)) x387000 x387001 (x387002 ++ [(⟨x408000, x408001, x408002, x408003, x408004⟩ : S43)]) x388000) else (none))
end
def impl_splice.f (k : Nat) (a0_0 : Int) (a0_1 : Int) (l0_2 : List (S43)) (a1_0 : Int) (a1_1 : Int) (l1_2 : List (S43)) : Option (Int × Int × (List (S43)) × Int) := (impl_Doc_has.f k a0_0 a0_1 l0_2 a1_0).bind fun t10 => (if t10 = true then (if (wrap64 (a0_1 + (l1_2.length : Int))) > 999999 then (some (0, 0, ([] : List (S43)), 4)) else ((impl_Doc_order.f k a0_0 a0_1 l0_2 ([] : List Int) a1_0).bind fun t11 => (if (wrap64 ((wrap64 ((l0_2.length : Int) - (t11.length : Int))) + (l1_2.length : Int))) > 40 then (some (0, 0, ([] : List (S43)), 7)) else ((impl_Doc_order.f k a1_0 a1_1 l1_2 ([] : List Int) a1_0).bind fun t12 => (impl_splice.l0 k t11 t12 (t12.length : Int) 0 a0_0 a0_1 l0_2 a1_0 a1_1 l1_2 a0_0 a0_1 ([] : List (Int × Int))))))) else (some (0, 0, ([] : List (S43)), 5)))
def impl_splice.T22 : Bool × List (List Nat × List Nat) := (true, [([], []), ([0], [0]), ([], []), ([2], [2]), ([3], [3]), ([1, 4, 3], [1, 4]), ([0, 1, 2, 3, 4, 5], []), ([6, 5, 5, 0, 1, 2, 3, 4, 5], [5, 6])])
def impl_splice.B22 : List Nat := [0, 1, 0, 4, 12, 31, 63, 127]
theorem impl_splice.tab22 : rtab .any (opsOf Try.f97 22) = impl_splice.T22 := by kernel_rfl
theorem impl_splice.bits22 : waitsOk impl_splice.T22.2 impl_splice.B22 = true := by kernel_rfl
theorem impl_splice.calls (k : Nat) (a0_0 : Int) (a0_1 : Int) (A0_2 : Option Addr) (c0_2 : Nat) (l0_2 : List (S43)) (a1_0 : Int) (a1_1 : Int) (A1_2 : Option Addr) (c1_2 : Nat) (l1_2 : List (S43)) (r1 : Int) (r2 : Int) (r3 : List (S43)) (r4 : Int) (w : World) (hr0_2 : Kd.C k43 w A0_2 l0_2.length l0_2) (hc0_2 : l0_2.length ≤ c0_2) (hr1_2 : Kd.C k43 w A1_2 l1_2.length l1_2) (hc1_2 : l1_2.length ≤ c1_2) (h : impl_splice.f k a0_0 a0_1 l0_2 a1_0 a1_1 l1_2 = some (r1, r2, r3, r4)) :
  Calls Try.prog 97 #[.agg #[.int .i64 a0_0, .int .i64 a0_1, .slice A0_2 l0_2.length c0_2], .agg #[.int .i64 a1_0, .int .i64 a1_1, .slice A1_2 l1_2.length c1_2]] w fun e w' => ∃ v2_ : Value, e = .returned (.tuple #[.agg #[.int .i64 r1, .int .i64 r2, v2_], .int .i64 r4]) ∧ Kd.S k43 43 w' w.heap.size (fun _ => True) v2_ r3 ∧ Below w.heap.size w w' := by
 have hu29 := Try.underlying29
 have hu43 := Try.underlying43
 have HR0_2 := Am hr0_2
 have HC0_2 := Am hc0_2
 clear hr0_2 hc0_2
 have HR1_2 := Am hr1_2
 have HC1_2 := Am hc1_2
 clear hr1_2 hc1_2
 have HB := Am (Below.refl w.heap.size w)
 have H : ((impl_Doc_has.f k a0_0 a0_1 l0_2 a1_0).bind fun t382 => (if t382 = true then (if (wrap64 (a0_1 + (l1_2.length : Int))) > 999999 then (some (0, 0, ([] : List (S43)), 4)) else ((impl_Doc_order.f k a0_0 a0_1 l0_2 ([] : List Int) a1_0).bind fun t383 => (if (wrap64 ((wrap64 ((l0_2.length : Int) - (t383.length : Int))) + (l1_2.length : Int))) > 40 then (some (0, 0, ([] : List (S43)), 7)) else ((impl_Doc_order.f k a1_0 a1_1 l1_2 ([] : List Int) a1_0).bind fun t388 => (impl_splice.l0 k t383 t388 (t388.length : Int) 0 a0_0 a0_1 l0_2 a1_0 a1_1 l1_2 a0_0 a0_1 ([] : List (Int × Int))))))) else (some (0, 0, ([] : List (S43)), 5)))) = some (r1, r2, r3, r4) := h
 clear h
 obtain ⟨t382, A3, H⟩ := Xbi H
 try dsimp only at H
 have HC4 := Am H
 clear H
 go_enter Try.func97, Try.ntmps97
 go_upto_if 17 with (first | ((with_reducible refine gate_dst (N := 2) rfl ?_); refine Xbx 2 #[.int .i64 a0_0, .int .i64 a0_1, .slice A0_2 l0_2.length c0_2] 29 ?_; intro gb379 hg w5 B379 GE379 hb; replace HB := Xhb hb; clear hb hg) | ((with_reducible refine gate_dst (N := 3) rfl ?_); refine Xbx 3 #[.int .i64 a1_0, .int .i64 a1_1, .slice A1_2 l1_2.length c1_2] 29 ?_; intro gb380 hg w6 B380 GE380 hb; replace HB := Xhb hb; have NB379_380 := Xnb hg B379; have NB380_379 := Xns NB379_380; replace B379 := Xbb B379 hb; clear hb hg) | ((with_reducible refine gate_dst (N := 4) rfl ?_); refine Xbx 4 #[.int .i64 0, .int .i64 0, .slice none 0 0] 29 ?_; intro gb381 hg w7 B381 GE381 hb; replace HB := Xhb hb; have NB379_381 := Xnb hg B379; have NB381_379 := Xns NB379_381; replace B379 := Xbb B379 hb; have NB380_381 := Xnb hg B380; have NB381_380 := Xns NB380_381; replace B380 := Xbb B380 hb; clear hb hg; have hnb8 := NB380_379.out; have hnc8 := NB379_380.out; have hnb9 := NB380_381.out; have hnc9 := NB381_380.out; obtain ⟨Z10_0, Z10_1, Z10_2⟩ := Xc3 B380; obtain ⟨F10_0, F10_1, F10_2⟩ := Xf3 B380) | ((with_reducible refine gate_callee (f := 67) rfl ?_); refine Xgo 20 Try.func67 #[.pointer (some ⟨gb379, 0, none⟩), .int .i64 a1_0] ?_; (with_reducible refine (impl_Doc_has.calls k gb379 a0_0 a0_1 A0_2 c0_2 l0_2 a1_0 t382 _ ?s1 ?s2 ?s3 A3.out).mono ?_); (case s1 => exact (Xq' B379)); (case s2 => exact Xc HR0_2); (case s3 => exact HC0_2.out); rintro e w11 ⟨rfl, hb⟩; refine ⟨_, rfl, ?_⟩; replace B379 := Xbb B379 hb; replace B380 := Xbb B380 hb; replace B381 := Xbb B381 hb; replace HB := Xhb hb; clear hb))
 have H := HC4.out
 clear HC4
 by_cases c12 : t382 = true
 ·subst c12
  try rw [if_pos rfl] at H
  obtain ⟨c13, H⟩ | ⟨c13, H⟩ := Xiu H
  ·have c13b0 : decide (999999 < (wrap64 (a0_1 + (l1_2.length : Int)))) = true := decide_eq_true c13
   clear c13
   (first | rw [c13b0] | (simp only [i64_w, i32_w]; rw [c13b0]) | skip)
   simp only [Option.some.injEq, Prod.mk.injEq] at H
   obtain ⟨rfl, rfl, rfl, rfl⟩ := H
   have hnb14 := NB379_380.out
   have hnc14 := NB380_379.out
   have hnb15 := NB379_381.out
   have hnc15 := NB381_379.out
   obtain ⟨Z16_0, Z16_1, Z16_2⟩ := Xc3 B379
   obtain ⟨F16_0, F16_1, F16_2⟩ := Xf3 B379
   have hnb17 := NB380_381.out
   have hnc17 := NB381_380.out
   obtain ⟨Z18_0, Z18_1, Z18_2⟩ := Xc3 B380
   obtain ⟨F18_0, F18_1, F18_2⟩ := Xf3 B380
   obtain ⟨Z19_0, Z19_1, Z19_2⟩ := Xc3 B381
   obtain ⟨F19_0, F19_1, F19_2⟩ := Xf3 B381
   go_wp2_with (first | ((with_reducible refine gate_store (t := 29) (p := 4) rfl ?_); refine store_event (t := 29) (p := 4) (v := ?vo_w20) (w1 := (((w11.setCell ⟨gb381, 0, none⟩ (.int .i64 0)).setCell ⟨gb381, 1, none⟩ (.int .i64 0)).setCell ⟨gb381, 2, none⟩ (.slice none 0 0))) ?hg ?ho ?hn ?hr ?_; (case ho => rfl); (case hg => rfl); (case hn => rfl); (case hr => first | (go_simp; done) | (go_simp; rfl)); intro w20 hw; have n0_ : Aside0 (w20.heap[gb379]? = some (.cells #[.int .i64 a0_0, .int .i64 a0_1, .slice A0_2 l0_2.length c0_2] 29 (0, 0))) := ⟨(by rw [hw]; exact (by refine Xu ?_; refine blk_far ?_ NB379_381.out _; refine Xu ?_; refine blk_far ?_ NB379_381.out _; refine Xu ?_; refine blk_far ?_ NB379_381.out _; refine Xu ?_; exact B379.out))⟩; have n1_ : Aside0 (w20.heap[gb380]? = some (.cells #[.int .i64 a1_0, .int .i64 a1_1, .slice A1_2 l1_2.length c1_2] 29 (0, 0))) := ⟨(by rw [hw]; exact (by refine Xu ?_; refine blk_far ?_ NB380_381.out _; refine Xu ?_; refine blk_far ?_ NB380_381.out _; refine Xu ?_; refine blk_far ?_ NB380_381.out _; refine Xu ?_; exact B380.out))⟩; have n2_ : Aside0 (w20.heap[gb381]? = some (.cells #[.int .i64 0, .int .i64 0, .slice none 0 0] 29 (0, 0))) := ⟨(by rw [hw]; exact (by refine Xu ?_; refine blk_put (cs := #[.int .i64 0, .int .i64 0, .slice none 0 0]) ?_ 2 _ rfl; refine Xu ?_; refine blk_put (cs := #[.int .i64 0, .int .i64 0, .slice none 0 0]) ?_ 1 _ rfl; refine Xu ?_; refine blk_put (cs := #[.int .i64 0, .int .i64 0, .slice none 0 0]) ?_ 0 _ rfl; refine Xu ?_; exact B381.out))⟩; have n3_ : Aside0 (Below w.heap.size w w20) := ⟨(by rw [hw]; exact Xi)⟩; clear hw; clear B379; clear B380; clear B381; clear HB; have B379 := n0_; have B380 := n1_; have B381 := n2_; have HB := n3_; clear n0_ n1_ n2_ n3_))
   refine bodyPost_ret (results_ct rfl _ _ gb381 29 #[.int .i64 0, .int .i64 0, .slice none 0 0] (0, 0) _ rfl (Xq' B381) Try.underlying29 rfl (by kernel_rfl)) rfl ?_
   exact ⟨_, Xe, by first | exact Kd.S_nil _ _ _ _ _ | exact Kd.N_nil _ _ _ _ _ | exact Kd.V_nil _ _ _ _ _ | exact Kd.Q_nil _ _ _ _ _ | exact Kd.R_nil _ _ _ _ _, Xi⟩
  have c13b0 : decide (999999 < (wrap64 (a0_1 + (l1_2.length : Int)))) = false := decide_eq_false c13
  clear c13
  (first | rw [c13b0] | (simp only [i64_w, i32_w]; rw [c13b0]) | skip)
  obtain ⟨t383, A21, H⟩ := Xbi H
  try dsimp only at H
  have HC22 := Am H
  clear H
  have hnb23 := NB379_380.out
  have hnc23 := NB380_379.out
  have hnb24 := NB379_381.out
  have hnc24 := NB381_379.out
  obtain ⟨Z25_0, Z25_1, Z25_2⟩ := Xc3 B379
  obtain ⟨F25_0, F25_1, F25_2⟩ := Xf3 B379
  have hnb26 := NB380_381.out
  have hnc26 := NB381_380.out
  obtain ⟨Z27_0, Z27_1, Z27_2⟩ := Xc3 B380
  obtain ⟨F27_0, F27_1, F27_2⟩ := Xf3 B380
  go_upto_if 45 with ((with_reducible refine gate_callee (f := 64) rfl ?_); refine Xgo 34 Try.func64 #[.pointer (some ⟨gb379, 0, none⟩), .slice none 0 0, .int .i64 a1_0] ?_; (refine (impl_Doc_order.calls k gb379 a0_0 a0_1 A0_2 c0_2 l0_2 (fun k_ => some k_ = (.slice none 0 0 : Value).ownBlock) (.slice none 0 0) ([] : List Int) a1_0 t383 w _ ?s1 ?s2 ?s3 ?s4 ?s5 A21.out).mono ?_); (case s1 => exact Xi); (case s2 => exact (Xq' B379)); (case s3 => exact Kd.C_kept_came k43_heap HR0_2.out Xi (fun k_ hs_ => (fun e_ => by simp [Value.ownBlock] at e_) hs_)); (case s4 => exact HC0_2.out); (case s5 => exact Kd.R_nil _ _ _ _ _); rintro e w28 ⟨v384, rfl, ho0, hb, hkp⟩; refine ⟨_, rfl, ?_⟩; replace B379 := Am (blk_kept (Xq' B379) hkp (fun hs_ => (fun e_ => by simp [Value.ownBlock] at e_) hs_)); replace B380 := Am (blk_kept (Xq' B380) hkp (fun hs_ => (fun e_ => by simp [Value.ownBlock] at e_) hs_)); replace B381 := Am (blk_kept (Xq' B381) hkp (fun hs_ => (fun e_ => by simp [Value.ownBlock] at e_) hs_)); have HO385 := Am (Kd.R_mono (ok' := fun k_ => True) ho0 (fun k_ hk_ => trivial)); replace HB := Am (hb); (try clear hb); (try clear hkp); (try clear ho0); obtain ⟨Z29_0, Z29_1, Z29_2⟩ := Xc3 B379; obtain ⟨F29_0, F29_1, F29_2⟩ := Xf3 B379; obtain ⟨Ao30, co30, eo30⟩ := Kd.R_slice HO385.out; subst eo30; obtain ⟨Z31_0, Z31_1, Z31_2⟩ := Xc3 B380; obtain ⟨F31_0, F31_1, F31_2⟩ := Xf3 B380)
  have H := HC22.out
  clear HC22
  obtain ⟨c32, H⟩ | ⟨c32, H⟩ := Xiu H
  ·have c32b0 : decide (40 < (wrap64 ((wrap64 ((l0_2.length : Int) - (t383.length : Int))) + (l1_2.length : Int)))) = true := decide_eq_true c32
   clear c32
   (first | rw [c32b0] | (simp only [i64_w, i32_w]; rw [c32b0]) | skip)
   simp only [Option.some.injEq, Prod.mk.injEq] at H
   obtain ⟨rfl, rfl, rfl, rfl⟩ := H
   have hnb33 := NB381_379.out
   have hnc33 := NB379_381.out
   have hnb34 := NB381_380.out
   have hnc34 := NB380_381.out
   obtain ⟨Z35_0, Z35_1, Z35_2⟩ := Xc3 B381
   obtain ⟨F35_0, F35_1, F35_2⟩ := Xf3 B381
   go_wp2_with (first | ((with_reducible refine gate_store (t := 29) (p := 4) rfl ?_); refine store_event (t := 29) (p := 4) (v := ?vo_w36) (w1 := (((w28.setCell ⟨gb381, 0, none⟩ (.int .i64 0)).setCell ⟨gb381, 1, none⟩ (.int .i64 0)).setCell ⟨gb381, 2, none⟩ (.slice none 0 0))) ?hg ?ho ?hn ?hr ?_; (case ho => rfl); (case hg => rfl); (case hn => rfl); (case hr => first | (go_simp; done) | (go_simp; rfl)); intro w36 hw; have n0_ : Aside0 (Kd.R (Kd.int .i64) 3 w36 w.heap.size (fun _ => True) (.slice Ao30 t383.length co30) t383) := ⟨(by rw [hw]; exact (by (with_reducible repeat (first | apply Kd.R_alloc | apply Kd.R_drewN | apply Kd.R_drew)); exact Kd.R_mono (Kd.R_far (p := ⟨gb381, 2, none⟩) (Kd.R_far (p := ⟨gb381, 1, none⟩) (Kd.R_far (p := ⟨gb381, 0, none⟩) (Kd.R_types HO385.out B381.out (by decide)) (fun _ hk => hk.2) (.int .i64 0)) (fun _ hk => hk.2) (.int .i64 0)) (fun _ hk => hk.2) (.slice none 0 0)) (fun _ hk => trivial)))⟩; have n1_ : Aside0 (w36.heap[gb379]? = some (.cells #[.int .i64 a0_0, .int .i64 a0_1, .slice A0_2 l0_2.length c0_2] 29 (0, 0))) := ⟨(by rw [hw]; exact (by refine Xu ?_; refine blk_far ?_ NB379_381.out _; refine Xu ?_; refine blk_far ?_ NB379_381.out _; refine Xu ?_; refine blk_far ?_ NB379_381.out _; refine Xu ?_; exact B379.out))⟩; have n2_ : Aside0 (w36.heap[gb380]? = some (.cells #[.int .i64 a1_0, .int .i64 a1_1, .slice A1_2 l1_2.length c1_2] 29 (0, 0))) := ⟨(by rw [hw]; exact (by refine Xu ?_; refine blk_far ?_ NB380_381.out _; refine Xu ?_; refine blk_far ?_ NB380_381.out _; refine Xu ?_; refine blk_far ?_ NB380_381.out _; refine Xu ?_; exact B380.out))⟩; have n3_ : Aside0 (w36.heap[gb381]? = some (.cells #[.int .i64 0, .int .i64 0, .slice none 0 0] 29 (0, 0))) := ⟨(by rw [hw]; exact (by refine Xu ?_; refine blk_put (cs := #[.int .i64 0, .int .i64 0, .slice none 0 0]) ?_ 2 _ rfl; refine Xu ?_; refine blk_put (cs := #[.int .i64 0, .int .i64 0, .slice none 0 0]) ?_ 1 _ rfl; refine Xu ?_; refine blk_put (cs := #[.int .i64 0, .int .i64 0, .slice none 0 0]) ?_ 0 _ rfl; refine Xu ?_; exact B381.out))⟩; have n4_ : Aside0 (Below w.heap.size w w36) := ⟨(by rw [hw]; exact Xi)⟩; clear hw; clear HO385; clear B379; clear B380; clear B381; clear HB; have HO385 := n0_; have B379 := n1_; have B380 := n2_; have B381 := n3_; have HB := n4_; clear n0_ n1_ n2_ n3_ n4_))
   refine bodyPost_ret (results_ct rfl _ _ gb381 29 #[.int .i64 0, .int .i64 0, .slice none 0 0] (0, 0) _ rfl (Xq' B381) Try.underlying29 rfl (by kernel_rfl)) rfl ?_
   exact ⟨_, Xe, by first | exact Kd.S_nil _ _ _ _ _ | exact Kd.N_nil _ _ _ _ _ | exact Kd.V_nil _ _ _ _ _ | exact Kd.Q_nil _ _ _ _ _ | exact Kd.R_nil _ _ _ _ _, Xi⟩
  have c32b0 : decide (40 < (wrap64 ((wrap64 ((l0_2.length : Int) - (t383.length : Int))) + (l1_2.length : Int)))) = false := decide_eq_false c32
  clear c32
  (first | rw [c32b0] | (simp only [i64_w, i32_w]; rw [c32b0]) | skip)
  obtain ⟨t388, A37, H⟩ := Xbi H
  try dsimp only at H
  have H' := Am H
  clear H
  have hnb38 := NB379_380.out
  have hnc38 := NB380_379.out
  have hnb39 := NB379_381.out
  have hnc39 := NB381_379.out
  obtain ⟨Z40_0, Z40_1, Z40_2⟩ := Xc3 B379
  obtain ⟨F40_0, F40_1, F40_2⟩ := Xf3 B379
  go_wp2_with (first | ((with_reducible refine gate_dst (N := 7) rfl ?_); refine Xbox 7 #[.int .i64 0, .int .i64 0, .slice none 0 0] 29 ?_; intro gb386 hg w41 hbox hb; replace HO385 := Am (Kd.R_below (Xq HO385) hb); have B386 := Am (hbox); have GE386 := Xge hg Xi; replace HB := Xhb hb; have NB379_386 := Xnb hg B379; have NB386_379 := Xns NB379_386; replace B379 := Xbb B379 hb; have NB380_386 := Xnb hg B380; have NB386_380 := Xns NB380_386; replace B380 := Xbb B380 hb; have NB381_386 := Xnb hg B381; have NB386_381 := Xns NB381_386; replace B381 := Xbb B381 hb; clear hb hbox hg; have hnb42 := NB386_379.out; have hnc42 := NB379_386.out; have hnb43 := NB386_380.out; have hnc43 := NB380_386.out; have hnb44 := NB386_381.out; have hnc44 := NB381_386.out; obtain ⟨Z45_0, Z45_1, Z45_2⟩ := Xc3 B386; obtain ⟨F45_0, F45_1, F45_2⟩ := Xf3 B386) | ((with_reducible refine gate_store (t := 29) (p := 7) rfl ?_); refine store_event (t := 29) (p := 7) (v := ?vo_w46) (w1 := (((w41.setCell ⟨gb386, 0, none⟩ (.int .i64 a0_0)).setCell ⟨gb386, 1, none⟩ (.int .i64 a0_1)).setCell ⟨gb386, 2, none⟩ (.slice none 0 0))) ?hg ?ho ?hn ?hr ?_; (case ho => rfl); (case hg => rfl); (case hn => rfl); (case hr => first | (go_simp; done) | (go_simp; rfl)); intro w46 hw; have n0_ : Aside0 (Kd.R (Kd.int .i64) 3 w46 w.heap.size (fun _ => True) (.slice Ao30 t383.length co30) t383) := ⟨(by rw [hw]; exact (by (with_reducible repeat (first | apply Kd.R_alloc | apply Kd.R_drewN | apply Kd.R_drew)); exact Kd.R_mono (Kd.R_far (p := ⟨gb386, 2, none⟩) (Kd.R_far (p := ⟨gb386, 1, none⟩) (Kd.R_far (p := ⟨gb386, 0, none⟩) (Kd.R_types HO385.out B386.out (by decide)) (fun _ hk => hk.2) (.int .i64 a0_0)) (fun _ hk => hk.2) (.int .i64 a0_1)) (fun _ hk => hk.2) (.slice none 0 0)) (fun _ hk => trivial)))⟩; have n1_ : Aside0 (w46.heap[gb379]? = some (.cells #[.int .i64 a0_0, .int .i64 a0_1, .slice A0_2 l0_2.length c0_2] 29 (0, 0))) := ⟨(by rw [hw]; exact (by refine Xu ?_; refine blk_far ?_ NB379_386.out _; refine Xu ?_; refine blk_far ?_ NB379_386.out _; refine Xu ?_; refine blk_far ?_ NB379_386.out _; refine Xu ?_; exact B379.out))⟩; have n2_ : Aside0 (w46.heap[gb380]? = some (.cells #[.int .i64 a1_0, .int .i64 a1_1, .slice A1_2 l1_2.length c1_2] 29 (0, 0))) := ⟨(by rw [hw]; exact (by refine Xu ?_; refine blk_far ?_ NB380_386.out _; refine Xu ?_; refine blk_far ?_ NB380_386.out _; refine Xu ?_; refine blk_far ?_ NB380_386.out _; refine Xu ?_; exact B380.out))⟩; have n3_ : Aside0 (w46.heap[gb381]? = some (.cells #[.int .i64 0, .int .i64 0, .slice none 0 0] 29 (0, 0))) := ⟨(by rw [hw]; exact (by refine Xu ?_; refine blk_far ?_ NB381_386.out _; refine Xu ?_; refine blk_far ?_ NB381_386.out _; refine Xu ?_; refine blk_far ?_ NB381_386.out _; refine Xu ?_; exact B381.out))⟩; have n4_ : Aside0 (w46.heap[gb386]? = some (.cells #[.int .i64 a0_0, .int .i64 a0_1, .slice none 0 0] 29 (0, 0))) := ⟨(by rw [hw]; exact (by refine Xu ?_; refine blk_put (cs := #[.int .i64 a0_0, .int .i64 a0_1, .slice none 0 0]) ?_ 2 _ rfl; refine Xu ?_; refine blk_put (cs := #[.int .i64 a0_0, .int .i64 0, .slice none 0 0]) ?_ 1 _ rfl; refine Xu ?_; refine blk_put (cs := #[.int .i64 0, .int .i64 0, .slice none 0 0]) ?_ 0 _ rfl; refine Xu ?_; exact B386.out))⟩; have n5_ : Aside0 (Below w.heap.size w w46) := ⟨(by rw [hw]; exact Xi)⟩; clear hw; clear HO385; clear B379; clear B380; clear B381; clear B386; clear HB; have HO385 := n0_; have B379 := n1_; have B380 := n2_; have B381 := n3_; have B386 := n4_; have HB := n5_; clear n0_ n1_ n2_ n3_ n4_ n5_) | ((with_reducible refine gate_dst (N := 52) rfl ?_); refine XM.make_event (Value.int .i64) ?hg (N := 52) ?hd 138 ?hr ?_; (case hd => rfl); (case hg => rfl); (case hr => rfl); intro gb387 hg w47 hbox hb; replace HO385 := Am (Kd.R_below (Xq HO385) hb); have B387 := Am (hbox); have GE387 := Xge hg Xi; replace HB := Xhb hb; have NB379_387 := Xnb hg B379; have NB387_379 := Xns NB379_387; replace B379 := Xbb B379 hb; have NB380_387 := Xnb hg B380; have NB387_380 := Xns NB380_387; replace B380 := Xbb B380 hb; have NB381_387 := Xnb hg B381; have NB387_381 := Xns NB381_387; replace B381 := Xbb B381 hb; have NB386_387 := Xnb hg B386; have NB387_386 := Xns NB386_387; replace B386 := Xbb B386 hb; clear hb hbox hg; have hnb48 := NB380_381.out; have hnc48 := NB381_380.out; have hnb49 := NB380_387.out; have hnc49 := NB387_380.out; obtain ⟨Z50_0, Z50_1, Z50_2⟩ := Xc3 B380; obtain ⟨F50_0, F50_1, F50_2⟩ := Xf3 B380) | ((with_reducible refine gate_callee (f := 64) rfl ?_); refine Xgo 55 Try.func64 #[.pointer (some ⟨gb380, 0, none⟩), .slice none 0 0, .int .i64 a1_0] ?_; (refine (impl_Doc_order.calls k gb380 a1_0 a1_1 A1_2 c1_2 l1_2 (fun k_ => some k_ = (.slice none 0 0 : Value).ownBlock) (.slice none 0 0) ([] : List Int) a1_0 t388 w _ ?s1 ?s2 ?s3 ?s4 ?s5 A37.out).mono ?_); (case s1 => exact Xi); (case s2 => exact (Xq' B380)); (case s3 => exact Kd.C_kept_came k43_heap HR1_2.out Xi (fun k_ hs_ => (fun e_ => by simp [Value.ownBlock] at e_) hs_)); (case s4 => exact HC1_2.out); (case s5 => exact Kd.R_nil _ _ _ _ _); rintro e w51 ⟨v389, rfl, ho0, hb, hkp⟩; refine ⟨_, rfl, ?_⟩; replace B379 := Am (blk_kept (Xq' B379) hkp (fun hs_ => (fun e_ => by simp [Value.ownBlock] at e_) hs_)); replace B380 := Am (blk_kept (Xq' B380) hkp (fun hs_ => (fun e_ => by simp [Value.ownBlock] at e_) hs_)); replace B381 := Am (blk_kept (Xq' B381) hkp (fun hs_ => (fun e_ => by simp [Value.ownBlock] at e_) hs_)); replace B386 := Am (blk_kept (Xq' B386) hkp (fun hs_ => (fun e_ => by simp [Value.ownBlock] at e_) hs_)); replace B387 := Am (blk_kept (Xq' B387) hkp (fun hs_ => (fun e_ => by simp [Value.ownBlock] at e_) hs_)); have HO390 := Am (Kd.R_mono (ok' := fun k_ => some k_ ≠ (.slice Ao30 t383.length co30 : Value).ownBlock) ho0 (fun k_ hk_ => Or.elim hk_ (fun hs_ => absurd hs_ (by simp [Value.ownBlock])) (fun hn_ => (Kd.fresh' (Kd.R_lt (Xq HO385)) k_ hn_)))); replace HO385 := Am (Kd.R_mono (ok' := fun k_ => some k_ ≠ (v389 : Value).ownBlock) (Kd.R_keptB (HO385.out) hkp (fun k_ hk_ hs_ => (fun e_ => by simp [Value.ownBlock] at e_) hs_)) (fun k_ hk_ => fun e_ => Or.elim (ho0.1 k_ e_.symm) (fun hs_ => hk_.2.1 hs_) (fun hn_ => Nat.not_le.2 hk_.2.2 hn_))); replace HB := Am (hb); (try clear hb); (try clear hkp); (try clear ho0); obtain ⟨Ao52, co52, eo52⟩ := Kd.R_slice HO390.out; subst eo52))
  go_loopg [57] k (fun kq v57 w' => ∃ (x57_1 : Int) (x387001_1 : Int) (x388000_1 : List (Int × Int)), v57 = .int .i64 x57_1 ∧ Aside0 (impl_splice.l0 kq t383 t388 (t388.length : Int) x57_1 a0_0 a0_1 l0_2 a1_0 a1_1 l1_2 a0_0 x387001_1 x388000_1 = some (r1, r2, r3, r4)) ∧ Aside0 (kq ≤ k) ∧ Aside0 (Kd.R (Kd.int .i64) 3 w' w.heap.size (fun k_ => some k_ ≠ ((.slice Ao52 t388.length co52) : Value).ownBlock) (.slice Ao30 t383.length co30) t383) ∧ Aside0 (Kd.R (Kd.int .i64) 3 w' w.heap.size (fun k_ => some k_ ≠ ((.slice Ao30 t383.length co30) : Value).ownBlock) (.slice Ao52 t388.length co52) t388) ∧ Aside0 (w'.heap[gb379]? = some (.cells #[.int .i64 a0_0, .int .i64 a0_1, (.slice A0_2 l0_2.length c0_2)] 29 (0, 0))) ∧ Aside0 (w'.heap[gb380]? = some (.cells #[.int .i64 a1_0, .int .i64 a1_1, (.slice A1_2 l1_2.length c1_2)] 29 (0, 0))) ∧ Aside0 (w'.heap[gb381]? = some (.cells #[.int .i64 0, .int .i64 0, (.slice none 0 0)] 29 (0, 0))) ∧ Aside0 (w'.heap[gb386]? = some (.cells #[.int .i64 a0_0, .int .i64 x387001_1, (.slice none 0 0)] 29 (0, 0))) ∧ Aside0 (w'.heap[gb387]? = some (XM.mapObj (Value.int .i64) x388000_1)) ∧ Aside0 (Below w.heap.size w w'))
  case atStart => exact ⟨(0), (a0_1), (([] : List (Int × Int))), Xr, H', Xkr, (Xp' HO385), (Xp' HO390), (Xp B379), (Xp B380), (Xp B381), (Xp B386), (Xp B387), ⟨Xi⟩⟩
  clear H'
  (try clear c12); (try clear c13); (try clear c13b0); (try clear c32); (try clear c32b0); (try clear Z10_0); (try clear Z10_1); (try clear Z10_2); (try clear Z25_0); (try clear Z25_1); (try clear Z25_2); (try clear Z27_0); (try clear Z27_1); (try clear Z27_2); (try clear Z29_0); (try clear Z29_1); (try clear Z29_2); (try clear Z31_0); (try clear Z31_1); (try clear Z31_2); (try clear Z40_0); (try clear Z40_1); (try clear Z40_2); (try clear Z45_0); (try clear Z45_1); (try clear Z45_2); (try clear Z50_0); (try clear Z50_1); (try clear Z50_2); (try clear F10_0); (try clear F10_1); (try clear F10_2); (try clear F25_0); (try clear F25_1); (try clear F25_2); (try clear F27_0); (try clear F27_1); (try clear F27_2); (try clear F29_0); (try clear F29_1); (try clear F29_2); (try clear F31_0); (try clear F31_1); (try clear F31_2); (try clear F40_0); (try clear F40_1); (try clear F40_2); (try clear F45_0); (try clear F45_1); (try clear F45_2); (try clear F50_0); (try clear F50_1); (try clear F50_2)
  obtain ⟨x57_1, x387001_1, x388000_1, rfl, HA, HK1, O_6, O_55, B379, B380, B381, B386, B387, HB⟩ := hrel
  cases gk with | zero => cases HA.out | succ k1 => ?_
  have H := HA.out
  clear HA
  simp only [impl_splice.l0] at H
  obtain ⟨c53b0, H⟩ | ⟨c53b0, H⟩ := Xit H
  ·obtain ⟨c54b0, H⟩ := Xid H
   obtain ⟨c55b0, H⟩ := Xid H
   obtain ⟨t392, A56, H⟩ := Xbi H
   try dsimp only at H
   have HC57 := Am H
   clear H
   have p391 : 0 ≤ (x57_1 : Int) := Xo
   have q391 : x57_1 < (t388.length : Int) := Xo
   obtain ⟨ad391, e391, hx391_0⟩ := Kd.at_int (Kd.R_reads' O_55.out).2.2 x57_1 p391 q391
   cases e391
   replace p391 := eq_true p391
   replace q391 := eq_true q391
   go_upto_if 67 with (first | ((with_reducible refine XM.gate_update (t := 138) rfl ?_); refine XM.update_event (enc := (Value.int .i64)) rfl rfl 138 _ _ _ rfl (rd t388 x57_1) (rd t388 x57_1) (g := gb387) (xs := x388000_1) rfl rfl rfl (by first | (refine Xu ?_; exact B387.out)) Try.underlying138 Try.underlying3 ?_; intro w58 hbox hg; replace O_6 := Am (XM.R_overmap (Xq O_6) B387.out hg); replace O_55 := Am (XM.R_overmap (Xq O_55) B387.out hg); replace B379 := Am (blk_grown (g := gb379) (o := .cells #[.int .i64 a0_0, .int .i64 a0_1, .slice A0_2 l0_2.length c0_2] 29 (0, 0)) (Xq' B379) hg (fun e_ => NB379_387.out (Option.some.inj e_))); replace B380 := Am (blk_grown (g := gb380) (o := .cells #[.int .i64 a1_0, .int .i64 a1_1, .slice A1_2 l1_2.length c1_2] 29 (0, 0)) (Xq' B380) hg (fun e_ => NB380_387.out (Option.some.inj e_))); replace B381 := Am (blk_grown (g := gb381) (o := .cells #[.int .i64 0, .int .i64 0, .slice none 0 0] 29 (0, 0)) (Xq' B381) hg (fun e_ => NB381_387.out (Option.some.inj e_))); replace B386 := Am (blk_grown (g := gb386) (o := .cells #[.int .i64 a0_0, .int .i64 x387001_1, .slice none 0 0] 29 (0, 0)) (Xq' B386) hg (fun e_ => NB386_387.out (Option.some.inj e_))); replace B387 := Am (hbox); replace HB := Am (Below.grown Xi hg HB.out.size (fun k_ e_ => Option.some.inj e_ ▸ GE387.out)); clear hbox hg) | ((with_reducible refine gate_callee (f := 103) rfl ?_); refine Xgo 66 Try.func103 #[.slice Ao30 t383.length co30, .int .i64 (rd t388 x57_1)] ?_; (with_reducible refine (slices_Contains_int_int.calls k1 _ _ t383 (rd t388 x57_1) t392 _ ?s1 ?s2 A56.out).mono ?_); (case s1 => exact Xcd (Kd.R_reads' O_6.out).2.2); (case s2 => exact (Kd.R_reads' O_6.out).2.1); rintro e w' ⟨rfl, ⟨nd, rfl⟩⟩; refine ⟨_, rfl, ?_⟩))
   (try (rw [drewN_self w58]; generalize hq_ : World.drewN w58 _ = w58; have n0_ : Aside0 (Kd.R (Kd.int .i64) 3 w58 w.heap.size (fun k_ => some k_ ≠ (.slice Ao30 t383.length co30 : Value).ownBlock) (.slice (some ad391) t388.length co52) t388) := ⟨by rw [← hq_]; exact (Xq O_55)⟩; have n1_ : Aside0 (Kd.R (Kd.int .i64) 3 w58 w.heap.size (fun k_ => some k_ ≠ (.slice (some ad391) t388.length co52 : Value).ownBlock) (.slice Ao30 t383.length co30) t383) := ⟨by rw [← hq_]; exact (Xq O_6)⟩; have n2_ : Aside0 (w58.heap[gb379]? = some (.cells #[.int .i64 a0_0, .int .i64 a0_1, .slice A0_2 l0_2.length c0_2] 29 (0, 0))) := ⟨by rw [← hq_]; exact (Xq' B379)⟩; have n3_ : Aside0 (w58.heap[gb380]? = some (.cells #[.int .i64 a1_0, .int .i64 a1_1, .slice A1_2 l1_2.length c1_2] 29 (0, 0))) := ⟨by rw [← hq_]; exact (Xq' B380)⟩; have n4_ : Aside0 (w58.heap[gb381]? = some (.cells #[.int .i64 0, .int .i64 0, .slice none 0 0] 29 (0, 0))) := ⟨by rw [← hq_]; exact (Xq' B381)⟩; have n5_ : Aside0 (w58.heap[gb386]? = some (.cells #[.int .i64 a0_0, .int .i64 x387001_1, .slice none 0 0] 29 (0, 0))) := ⟨by rw [← hq_]; exact (Xq' B386)⟩; have n6_ : Aside0 (w58.heap[gb387]? = some (XM.mapObj (Value.int .i64) (XM.put x388000_1 (rd t388 x57_1) (rd t388 x57_1)))) := ⟨by rw [← hq_]; exact (Xq' B387)⟩; have n7_ : Aside0 (Below w.heap.size w w58) := ⟨by rw [← hq_]; exact Xi⟩; clear O_55 O_6 B379 B380 B381 B386 B387 HB hq_; have O_55 := n0_; have O_6 := n1_; have B379 := n2_; have B380 := n3_; have B381 := n4_; have B386 := n5_; have B387 := n6_; have HB := n7_; clear n0_ n1_ n2_ n3_ n4_ n5_ n6_ n7_))
   have H := HC57.out
   clear HC57
   by_cases c59 : t392 = true
   ·subst c59
    try rw [if_pos rfl] at H
    have H' := Am H
    clear H
    go_wp2
    go_roundg k1
    case measure => have := HK1.out; omega
    case rel => exact ⟨(wrap64 (x57_1 + 1)), (x387001_1), (XM.put x388000_1 (rd t388 x57_1) (rd t388 x57_1)), Xr, H', Xk1, (Xp' O_6), (Xp' O_55), (Xp B379), (Xp B380), (Xp B381), (Xp B386), (Xp B387), ⟨Xi⟩⟩
   replace c59 := Xbf c59
   subst c59
   try rw [if_neg Xft] at H
   have H' := Am H
   clear H
   have hnb60 := NB386_379.out
   have hnc60 := NB379_386.out
   have hnb61 := NB386_380.out
   have hnc61 := NB380_386.out
   have hnb62 := NB386_381.out
   have hnc62 := NB381_386.out
   have hnb63 := NB386_387.out
   have hnc63 := NB387_386.out
   obtain ⟨Z64_0, Z64_1, Z64_2⟩ := Xc3 B386
   obtain ⟨F64_0, F64_1, F64_2⟩ := Xf3 B386
   go_wp2_with (first | ((with_reducible refine XM.gate_update (t := 138) rfl ?_); refine XM.update_event (enc := (Value.int .i64)) rfl rfl 138 _ _ _ rfl (rd t388 x57_1) x387001_1 (g := gb387) (xs := (XM.put x388000_1 (rd t388 x57_1) (rd t388 x57_1))) rfl rfl rfl (by first | (refine Xu ?_; exact B387.out)) Try.underlying138 Try.underlying3 ?_; intro w65 hbox hg; replace O_6 := Am (XM.R_overmap (Xq O_6) B387.out hg); replace O_55 := Am (XM.R_overmap (Xq O_55) B387.out hg); replace B379 := Am (blk_grown (g := gb379) (o := .cells #[.int .i64 a0_0, .int .i64 a0_1, .slice A0_2 l0_2.length c0_2] 29 (0, 0)) (Xq' B379) hg (fun e_ => NB379_387.out (Option.some.inj e_))); replace B380 := Am (blk_grown (g := gb380) (o := .cells #[.int .i64 a1_0, .int .i64 a1_1, .slice A1_2 l1_2.length c1_2] 29 (0, 0)) (Xq' B380) hg (fun e_ => NB380_387.out (Option.some.inj e_))); replace B381 := Am (blk_grown (g := gb381) (o := .cells #[.int .i64 0, .int .i64 0, .slice none 0 0] 29 (0, 0)) (Xq' B381) hg (fun e_ => NB381_387.out (Option.some.inj e_))); replace B386 := Am (blk_grown (g := gb386) (o := .cells #[.int .i64 a0_0, .int .i64 x387001_1, .slice none 0 0] 29 (0, 0)) (Xq' B386) hg (fun e_ => NB386_387.out (Option.some.inj e_))); replace B387 := Am (hbox); replace HB := Am (Below.grown Xi hg HB.out.size (fun k_ e_ => Option.some.inj e_ ▸ GE387.out)); clear hbox hg; obtain ⟨Z66_0, Z66_1, Z66_2⟩ := Xc3 B386; obtain ⟨F66_0, F66_1, F66_2⟩ := Xf3 B386))
   go_roundg k1
   case measure => have := HK1.out; omega
   case rel => exact ⟨(wrap64 (x57_1 + 1)), (wrap64 (x387001_1 + 1)), (XM.put (XM.put x388000_1 (rd t388 x57_1) (rd t388 x57_1)) (rd t388 x57_1) x387001_1), Xr, H', Xk1, ⟨by (with_reducible repeat (first | apply Kd.R_alloc | apply Kd.R_drewN | apply Kd.R_drew)); exact Kd.R_mono (Kd.R_far (p := ⟨gb386, 1, none⟩) (Kd.R_types O_6.out B386.out (by decide)) (fun _ hk => hk.2) (.int .i64 (wrap64 (x387001_1 + 1)))) (fun _ hk => hk.1)⟩, ⟨by (with_reducible repeat (first | apply Kd.R_alloc | apply Kd.R_drewN | apply Kd.R_drew)); exact Kd.R_mono (Kd.R_far (p := ⟨gb386, 1, none⟩) (Kd.R_types O_55.out B386.out (by decide)) (fun _ hk => hk.2) (.int .i64 (wrap64 (x387001_1 + 1)))) (fun _ hk => hk.1)⟩, ⟨by refine Xu ?_; refine blk_far ?_ NB379_386.out _; refine Xu ?_; exact B379.out⟩, ⟨by refine Xu ?_; refine blk_far ?_ NB380_386.out _; refine Xu ?_; exact B380.out⟩, ⟨by refine Xu ?_; refine blk_far ?_ NB381_386.out _; refine Xu ?_; exact B381.out⟩, ⟨by refine Xu ?_; refine blk_put (cs := #[.int .i64 a0_0, .int .i64 x387001_1, .slice none 0 0]) ?_ 1 _ rfl; refine Xu ?_; exact B386.out⟩, ⟨by refine Xu ?_; refine XM.blk_far ?_ NB387_386.out _; refine Xu ?_; exact B387.out⟩, ⟨Xi⟩⟩
  have H' := Am H
  clear H
  have hnb67 := NB379_380.out
  have hnc67 := NB380_379.out
  have hnb68 := NB379_381.out
  have hnc68 := NB381_379.out
  have hnb69 := NB379_386.out
  have hnc69 := NB386_379.out
  have hnb70 := NB379_387.out
  have hnc70 := NB387_379.out
  obtain ⟨Z71_0, Z71_1, Z71_2⟩ := Xc3 B379
  obtain ⟨F71_0, F71_1, F71_2⟩ := Xf3 B379
  go_wp2
  go_loopg [80] k1 (fun kq v80 w' => ∃ (x80_2 : Int) (x387002_2 : List (S43)) (u387002 : Value), v80 = .int .i64 x80_2 ∧ Aside0 (impl_splice.l1 kq t383 l0_2 (l0_2.length : Int) x80_2 a1_0 a1_1 l1_2 a0_0 x387001_1 x387002_2 x388000_1 = some (r1, r2, r3, r4)) ∧ Aside0 (kq ≤ k1) ∧ Aside0 (Kd.R (Kd.int .i64) 3 w' w.heap.size (fun _ => True) (.slice Ao30 t383.length co30) t383) ∧ Aside0 (Kd.S k43 43 w' w.heap.size (fun k_ => some k_ ≠ ((.slice Ao30 t383.length co30) : Value).ownBlock) u387002 x387002_2) ∧ Aside0 (w'.heap[gb379]? = some (.cells #[.int .i64 a0_0, .int .i64 a0_1, (.slice A0_2 l0_2.length c0_2)] 29 (0, 0))) ∧ Aside0 (w'.heap[gb380]? = some (.cells #[.int .i64 a1_0, .int .i64 a1_1, (.slice A1_2 l1_2.length c1_2)] 29 (0, 0))) ∧ Aside0 (w'.heap[gb381]? = some (.cells #[.int .i64 0, .int .i64 0, (.slice none 0 0)] 29 (0, 0))) ∧ Aside0 (w'.heap[gb386]? = some (.cells #[.int .i64 a0_0, .int .i64 x387001_1, u387002] 29 (0, 0))) ∧ Aside0 (w'.heap[gb387]? = some (XM.mapObj (Value.int .i64) x388000_1)) ∧ Aside0 (Below w.heap.size w w'))
  case atStart => exact ⟨(0), (([] : List (S43))), (.slice none 0 0), Xr, H', Xkr, ⟨by (with_reducible repeat (first | apply Kd.R_alloc | apply Kd.R_drewN | apply Kd.R_drew)); exact Kd.R_mono O_6.out (fun _ hk => trivial)⟩, ⟨by first | exact Kd.S_nil _ _ _ _ _ | exact Kd.N_nil _ _ _ _ _ | exact Kd.V_nil _ _ _ _ _ | exact Kd.Q_nil _ _ _ _ _ | exact Kd.R_nil _ _ _ _ _⟩, (Xp B379), (Xp B380), (Xp B381), (Xp B386), (Xp B387), ⟨Xi⟩⟩
  clear H'
  (try clear c12); (try clear c13); (try clear c13b0); (try clear c32); (try clear c32b0); (try clear c53); (try clear c53b0); (try clear Z10_0); (try clear Z10_1); (try clear Z10_2); (try clear Z25_0); (try clear Z25_1); (try clear Z25_2); (try clear Z27_0); (try clear Z27_1); (try clear Z27_2); (try clear Z29_0); (try clear Z29_1); (try clear Z29_2); (try clear Z31_0); (try clear Z31_1); (try clear Z31_2); (try clear Z40_0); (try clear Z40_1); (try clear Z40_2); (try clear Z45_0); (try clear Z45_1); (try clear Z45_2); (try clear Z50_0); (try clear Z50_1); (try clear Z50_2); (try clear Z71_0); (try clear Z71_1); (try clear Z71_2); (try clear F10_0); (try clear F10_1); (try clear F10_2); (try clear F25_0); (try clear F25_1); (try clear F25_2); (try clear F27_0); (try clear F27_1); (try clear F27_2); (try clear F29_0); (try clear F29_1); (try clear F29_2); (try clear F31_0); (try clear F31_1); (try clear F31_2); (try clear F40_0); (try clear F40_1); (try clear F40_2); (try clear F45_0); (try clear F45_1); (try clear F45_2); (try clear F50_0); (try clear F50_1); (try clear F50_2); (try clear F71_0); (try clear F71_1); (try clear F71_2)
  obtain ⟨x80_2, x387002_2, u387002, rfl, HA, HK2, O_6, O_387002, B379, B380, B381, B386, B387, HB⟩ := hrel
  cases gk with | zero => cases HA.out | succ k2 => ?_
  have H := HA.out
  clear HA
  simp only [impl_splice.l1] at H
  obtain ⟨c72b0, H⟩ | ⟨c72b0, H⟩ := Xit H
  ·obtain ⟨c73b0, H⟩ := Xid H
   obtain ⟨c74b0, H⟩ := Xid H
   obtain ⟨t395, A75, H⟩ := Xbi H
   try dsimp only at H
   have HC76 := Am H
   clear H
   obtain ⟨ad393, A393_4, c393_4, e393, p393, q393, hx393_0, hx393_1, hx393_2, hx393_3, hx393_4, HC393_4, HR393_4⟩ := at_B43 HR0_2 x80_2 Xa Xa HB
   cases e393
   go_upto_if 88 with (first | ((with_reducible refine gate_dst (N := 12) rfl ?_); refine Xbox 12 #[.int .i64 0, .int .i64 0, .int .i64 0, .string (⟨#[]⟩ : ByteArray), .slice none 0 0] 43 ?_; intro gb394 hg w77 hbox hb; replace O_6 := Am (Kd.R_below (Xq O_6) hb); replace O_387002 := Am (Kd.S_below (Kd.S_elderB (Xq O_387002) gb394 (Nat.le_of_eq hg.symm)) hb); have B394 := Am (hbox); have GE394 := Xge hg Xi; replace HB := Xhb hb; have NB379_394 := Xnb hg B379; have NB394_379 := Xns NB379_394; replace B379 := Xbb B379 hb; have NB380_394 := Xnb hg B380; have NB394_380 := Xns NB380_394; replace B380 := Xbb B380 hb; have NB381_394 := Xnb hg B381; have NB394_381 := Xns NB381_394; replace B381 := Xbb B381 hb; have NB386_394 := Xnb hg B386; have NB394_386 := Xns NB386_394; replace B386 := Xbb B386 hb; have NB387_394 := Xnb hg B387; have NB394_387 := Xns NB387_394; replace B387 := Xbb B387 hb; clear hb hbox hg; have hnb78 := NB394_379.out; have hnc78 := NB379_394.out; have hnb79 := NB394_380.out; have hnc79 := NB380_394.out; have hnb80 := NB394_381.out; have hnc80 := NB381_394.out; have hnb81 := NB394_386.out; have hnc81 := NB386_394.out; have hnb82 := NB394_387.out; have hnc82 := NB387_394.out; obtain ⟨Z83_0, Z83_1, Z83_2, Z83_3, Z83_4⟩ := Xc5 B394; obtain ⟨F83_0, F83_1, F83_2, F83_3, F83_4⟩ := Xf5 B394) | ((with_reducible refine gate_store (t := 43) (p := 12) rfl ?_); refine store_event (t := 43) (p := 12) (v := ?vo_w84) (w1 := (((((w77.setCell ⟨gb394, 0, none⟩ (.int .i64 ((rd_T43 l0_2 x80_2).f0))).setCell ⟨gb394, 1, none⟩ (.int .i64 ((rd_T43 l0_2 x80_2).f1))).setCell ⟨gb394, 2, none⟩ (.int .i64 ((rd_T43 l0_2 x80_2).f2))).setCell ⟨gb394, 3, none⟩ (.string ((rd_T43 l0_2 x80_2).f3))).setCell ⟨gb394, 4, none⟩ (.slice A393_4 ((rd_T43 l0_2 x80_2).f4).length c393_4))) ?hg ?ho ?hn ?hr ?_; (case ho => rfl); (case hg => rfl); (case hn => rfl); (case hr => first | (go_simp; done) | (go_simp; rfl)); intro w84 hw; have n0_ : Aside0 (Kd.R (Kd.int .i64) 3 w84 w.heap.size (fun _ => True) (.slice Ao30 t383.length co30) t383) := ⟨(by rw [hw]; exact (by (with_reducible repeat (first | apply Kd.R_alloc | apply Kd.R_drewN | apply Kd.R_drew)); exact Kd.R_mono (Kd.R_far (p := ⟨gb394, 4, none⟩) (Kd.R_far (p := ⟨gb394, 3, none⟩) (Kd.R_far (p := ⟨gb394, 2, none⟩) (Kd.R_far (p := ⟨gb394, 1, none⟩) (Kd.R_far (p := ⟨gb394, 0, none⟩) (Kd.R_types O_6.out B394.out (by decide)) (fun _ hk => hk.2) (.int .i64 ((rd_T43 l0_2 x80_2).f0))) (fun _ hk => hk.2) (.int .i64 ((rd_T43 l0_2 x80_2).f1))) (fun _ hk => hk.2) (.int .i64 ((rd_T43 l0_2 x80_2).f2))) (fun _ hk => hk.2) (.string ((rd_T43 l0_2 x80_2).f3))) (fun _ hk => hk.2) (.slice A393_4 ((rd_T43 l0_2 x80_2).f4).length c393_4)) (fun _ hk => trivial)))⟩; have n1_ : Aside0 (Kd.S k43 43 w84 w.heap.size (fun k_ => some k_ ≠ (.slice Ao30 t383.length co30 : Value).ownBlock ∧ k_ ≠ gb394) u387002 x387002_2) := ⟨(by rw [hw]; exact (by (with_reducible repeat (first | apply Kd.S_alloc | apply Kd.S_drewN | apply Kd.S_drew)); exact Kd.S_mono (Kd.S_far (p := ⟨gb394, 4, none⟩) (Kd.S_far (p := ⟨gb394, 3, none⟩) (Kd.S_far (p := ⟨gb394, 2, none⟩) (Kd.S_far (p := ⟨gb394, 1, none⟩) (Kd.S_far (p := ⟨gb394, 0, none⟩) (Kd.S_mono O_387002.out (fun k_ hk => (⟨hk, hk.2⟩ : _ ∧ k_ ≠ gb394))) (fun _ hk => hk.2) (.int .i64 ((rd_T43 l0_2 x80_2).f0))) (fun _ hk => hk.2) (.int .i64 ((rd_T43 l0_2 x80_2).f1))) (fun _ hk => hk.2) (.int .i64 ((rd_T43 l0_2 x80_2).f2))) (fun _ hk => hk.2) (.string ((rd_T43 l0_2 x80_2).f3))) (fun _ hk => hk.2) (.slice A393_4 ((rd_T43 l0_2 x80_2).f4).length c393_4)) (fun _ hk => ⟨hk.1.1, hk.1.2⟩)))⟩; have n2_ : Aside0 (w84.heap[gb379]? = some (.cells #[.int .i64 a0_0, .int .i64 a0_1, .slice (some ad393) l0_2.length c0_2] 29 (0, 0))) := ⟨(by rw [hw]; exact (by refine Xu ?_; refine blk_far ?_ NB379_394.out _; refine Xu ?_; refine blk_far ?_ NB379_394.out _; refine Xu ?_; refine blk_far ?_ NB379_394.out _; refine Xu ?_; refine blk_far ?_ NB379_394.out _; refine Xu ?_; refine blk_far ?_ NB379_394.out _; refine Xu ?_; exact B379.out))⟩; have n3_ : Aside0 (w84.heap[gb380]? = some (.cells #[.int .i64 a1_0, .int .i64 a1_1, .slice A1_2 l1_2.length c1_2] 29 (0, 0))) := ⟨(by rw [hw]; exact (by refine Xu ?_; refine blk_far ?_ NB380_394.out _; refine Xu ?_; refine blk_far ?_ NB380_394.out _; refine Xu ?_; refine blk_far ?_ NB380_394.out _; refine Xu ?_; refine blk_far ?_ NB380_394.out _; refine Xu ?_; refine blk_far ?_ NB380_394.out _; refine Xu ?_; exact B380.out))⟩; have n4_ : Aside0 (w84.heap[gb381]? = some (.cells #[.int .i64 0, .int .i64 0, .slice none 0 0] 29 (0, 0))) := ⟨(by rw [hw]; exact (by refine Xu ?_; refine blk_far ?_ NB381_394.out _; refine Xu ?_; refine blk_far ?_ NB381_394.out _; refine Xu ?_; refine blk_far ?_ NB381_394.out _; refine Xu ?_; refine blk_far ?_ NB381_394.out _; refine Xu ?_; refine blk_far ?_ NB381_394.out _; refine Xu ?_; exact B381.out))⟩; have n5_ : Aside0 (w84.heap[gb386]? = some (.cells #[.int .i64 a0_0, .int .i64 x387001_1, u387002] 29 (0, 0))) := ⟨(by rw [hw]; exact (by refine Xu ?_; refine blk_far ?_ NB386_394.out _; refine Xu ?_; refine blk_far ?_ NB386_394.out _; refine Xu ?_; refine blk_far ?_ NB386_394.out _; refine Xu ?_; refine blk_far ?_ NB386_394.out _; refine Xu ?_; refine blk_far ?_ NB386_394.out _; refine Xu ?_; exact B386.out))⟩; have n6_ : Aside0 (w84.heap[gb387]? = some (XM.mapObj (Value.int .i64) x388000_1)) := ⟨(by rw [hw]; exact (by refine Xu ?_; refine XM.blk_far ?_ NB387_394.out _; refine Xu ?_; refine XM.blk_far ?_ NB387_394.out _; refine Xu ?_; refine XM.blk_far ?_ NB387_394.out _; refine Xu ?_; refine XM.blk_far ?_ NB387_394.out _; refine Xu ?_; refine XM.blk_far ?_ NB387_394.out _; refine Xu ?_; exact B387.out))⟩; have n7_ : Aside0 (w84.heap[gb394]? = some (.cells #[.int .i64 ((rd_T43 l0_2 x80_2).f0), .int .i64 ((rd_T43 l0_2 x80_2).f1), .int .i64 ((rd_T43 l0_2 x80_2).f2), .string ((rd_T43 l0_2 x80_2).f3), .slice A393_4 ((rd_T43 l0_2 x80_2).f4).length c393_4] 43 (0, 0))) := ⟨(by rw [hw]; exact (by refine Xu ?_; refine blk_put (cs := #[.int .i64 ((rd_T43 l0_2 x80_2).f0), .int .i64 ((rd_T43 l0_2 x80_2).f1), .int .i64 ((rd_T43 l0_2 x80_2).f2), .string ((rd_T43 l0_2 x80_2).f3), .slice none 0 0]) ?_ 4 _ rfl; refine Xu ?_; refine blk_put (cs := #[.int .i64 ((rd_T43 l0_2 x80_2).f0), .int .i64 ((rd_T43 l0_2 x80_2).f1), .int .i64 ((rd_T43 l0_2 x80_2).f2), .string (⟨#[]⟩ : ByteArray), .slice none 0 0]) ?_ 3 _ rfl; refine Xu ?_; refine blk_put (cs := #[.int .i64 ((rd_T43 l0_2 x80_2).f0), .int .i64 ((rd_T43 l0_2 x80_2).f1), .int .i64 0, .string (⟨#[]⟩ : ByteArray), .slice none 0 0]) ?_ 2 _ rfl; refine Xu ?_; refine blk_put (cs := #[.int .i64 ((rd_T43 l0_2 x80_2).f0), .int .i64 0, .int .i64 0, .string (⟨#[]⟩ : ByteArray), .slice none 0 0]) ?_ 1 _ rfl; refine Xu ?_; refine blk_put (cs := #[.int .i64 0, .int .i64 0, .int .i64 0, .string (⟨#[]⟩ : ByteArray), .slice none 0 0]) ?_ 0 _ rfl; refine Xu ?_; exact B394.out))⟩; have n8_ : Aside0 (Below w.heap.size w w84) := ⟨(by rw [hw]; exact Xi)⟩; clear hw; clear O_6; clear O_387002; clear B379; clear B380; clear B381; clear B386; clear B387; clear B394; clear HB; have O_6 := n0_; have O_387002 := n1_; have B379 := n2_; have B380 := n3_; have B381 := n4_; have B386 := n5_; have B387 := n6_; have B394 := n7_; have HB := n8_; clear n0_ n1_ n2_ n3_ n4_ n5_ n6_ n7_ n8_; obtain ⟨Z85_0, Z85_1, Z85_2, Z85_3, Z85_4⟩ := Xc5 B394; obtain ⟨F85_0, F85_1, F85_2, F85_3, F85_4⟩ := Xf5 B394) | ((with_reducible refine gate_callee (f := 103) rfl ?_); refine Xgo 87 Try.func103 #[.slice Ao30 t383.length co30, .int .i64 ((rd_T43 l0_2 x80_2).f0)] ?_; (with_reducible refine (slices_Contains_int_int.calls k2 _ _ t383 ((rd_T43 l0_2 x80_2).f0) t395 _ ?s1 ?s2 A75.out).mono ?_); (case s1 => exact Xcd (Kd.R_reads' O_6.out).2.2); (case s2 => exact (Kd.R_reads' O_6.out).2.1); rintro e w' ⟨rfl, ⟨nd, rfl⟩⟩; refine ⟨_, rfl, ?_⟩))
   (try (rw [drewN_self w84]; generalize hq_ : World.drewN w84 _ = w84; have n0_ : Aside0 (Kd.S k43 43 w84 w.heap.size (fun k_ => some k_ ≠ (.slice Ao30 t383.length co30 : Value).ownBlock ∧ k_ ≠ gb394) u387002 x387002_2) := ⟨by rw [← hq_]; exact (Xq O_387002)⟩; have n1_ : Aside0 (Kd.R (Kd.int .i64) 3 w84 w.heap.size (fun _ => True) (.slice Ao30 t383.length co30) t383) := ⟨by rw [← hq_]; exact (Xq O_6)⟩; have n2_ : Aside0 (w84.heap[gb379]? = some (.cells #[.int .i64 a0_0, .int .i64 a0_1, .slice (some ad393) l0_2.length c0_2] 29 (0, 0))) := ⟨by rw [← hq_]; exact (Xq' B379)⟩; have n3_ : Aside0 (w84.heap[gb380]? = some (.cells #[.int .i64 a1_0, .int .i64 a1_1, .slice A1_2 l1_2.length c1_2] 29 (0, 0))) := ⟨by rw [← hq_]; exact (Xq' B380)⟩; have n4_ : Aside0 (w84.heap[gb381]? = some (.cells #[.int .i64 0, .int .i64 0, .slice none 0 0] 29 (0, 0))) := ⟨by rw [← hq_]; exact (Xq' B381)⟩; have n5_ : Aside0 (w84.heap[gb386]? = some (.cells #[.int .i64 a0_0, .int .i64 x387001_1, u387002] 29 (0, 0))) := ⟨by rw [← hq_]; exact (Xq' B386)⟩; have n6_ : Aside0 (w84.heap[gb387]? = some (XM.mapObj (Value.int .i64) x388000_1)) := ⟨by rw [← hq_]; exact (Xq' B387)⟩; have n7_ : Aside0 (w84.heap[gb394]? = some (.cells #[.int .i64 ((rd_T43 l0_2 x80_2).f0), .int .i64 ((rd_T43 l0_2 x80_2).f1), .int .i64 ((rd_T43 l0_2 x80_2).f2), .string ((rd_T43 l0_2 x80_2).f3), .slice A393_4 ((rd_T43 l0_2 x80_2).f4).length c393_4] 43 (0, 0))) := ⟨by rw [← hq_]; exact (Xq' B394)⟩; have n8_ : Aside0 (Below w.heap.size w w84) := ⟨by rw [← hq_]; exact Xi⟩; clear O_387002 O_6 B379 B380 B381 B386 B387 B394 HB hq_; have O_387002 := n0_; have O_6 := n1_; have B379 := n2_; have B380 := n3_; have B381 := n4_; have B386 := n5_; have B387 := n6_; have B394 := n7_; have HB := n8_; clear n0_ n1_ n2_ n3_ n4_ n5_ n6_ n7_ n8_))
   have H := HC76.out
   clear HC76
   by_cases c86 : t395 = true
   ·subst c86
    try rw [if_pos rfl] at H
    have H' := Am H
    clear H
    go_wp2
    go_roundg k2
    case measure => have := HK1.out; have := HK2.out; omega
    case rel => exact ⟨(wrap64 (x80_2 + 1)), (x387002_2), (u387002), Xr, H', ⟨by have := HK1.out; have := HK2.out; omega⟩, (Xp' O_6), ⟨by (with_reducible repeat (first | apply Kd.S_alloc | apply Kd.S_drewN | apply Kd.S_drew)); exact Kd.S_mono O_387002.out (fun _ hk => hk.1)⟩, (Xp B379), (Xp B380), (Xp B381), (Xp B386), (Xp B387), ⟨Xi⟩⟩
   replace c86 := Xbf c86
   subst c86
   try rw [if_neg Xft] at H
   replace H := Option.bind_eq_some_iff.mp H
   obtain ⟨⟨t396, t397, t398, t399, t400⟩, A870, H⟩ := H
   try dsimp only at H
   have A87 := Am A870
   clear A870
   obtain ⟨c88, H⟩ := Xif H
   have LMc88 := Am c88
   clear c88
   obtain ⟨y403, hy403⟩ : ∃ y_ : List (S43), y_ = (x387002_2 ++ [(⟨t396, t397, t398, t399, t400⟩ : S43)]) := ⟨_, rfl⟩
   replace H : (impl_splice.l1 k2 t383 l0_2 (l0_2.length : Int) (wrap64 (x80_2 + 1)) a1_0 a1_1 l1_2 a0_0 x387001_1 y403 x388000_1) = some (r1, r2, r3, r4) := by first | (rw [hy403]; with_reducible exact H) | (have H2_ := (Option.bind_some _ _).symm.trans H; rw [hy403]; with_reducible exact H2_) | (have H2_ := (Option.bind_some _ _).symm.trans H; with_reducible exact H2_) | with_reducible exact H | (rw [hy403]; exact H) | exact H
   have Ny403 := Am hy403
   clear hy403
   have H' := Am H
   clear H
   try go_wp2_with (fail)
   replace O_6 := Am (Kd.R_drew O_6.out)
   replace O_387002 := Am (Kd.S_drew O_387002.out)
   replace B379 := Xbd B379
   replace B380 := Xbd B380
   replace B381 := Xbd B381
   replace B386 := Xbd B386
   replace B387 := Xbd B387
   replace B394 := Xbd B394
   replace HB := Xhd HB
   refine start_ (n := 8) (S := fun w' => w'.cell? ⟨gb386, 0, none⟩ = some (.int .i64 a0_0) ∧ w'.cell? ⟨gb386, 1, none⟩ = some (.int .i64 x387001_1) ∧ w'.cell? ⟨gb386, 2, none⟩ = some (u387002) ∧ w'.cell? ⟨gb394, 0, none⟩ = some (.int .i64 ((rd_T43 l0_2 x80_2).f0)) ∧ w'.cell? ⟨gb394, 1, none⟩ = some (.int .i64 ((rd_T43 l0_2 x80_2).f1)) ∧ w'.cell? ⟨gb394, 2, none⟩ = some (.int .i64 ((rd_T43 l0_2 x80_2).f2)) ∧ w'.cell? ⟨gb394, 3, none⟩ = some (.string ((rd_T43 l0_2 x80_2).f3)) ∧ w'.cell? ⟨gb394, 4, none⟩ = some (.slice A393_4 ((rd_T43 l0_2 x80_2).f4).length c393_4)) (ds := [7]) #[false, false, false, false, false, false, false, false] (by kernel_rfl) rfl rfl ⟨Xk B386 0, Xk B386 1, Xk B386 2, Xk B394 0, Xk B394 1, Xk B394 2, Xk B394 3, Xk B394 4⟩ (fun hHeld => ?_); refine with_tabW impl_splice.tab22 impl_splice.bits22 (fun HT_ HW_ => ?_)
   generalize w84.drew = w89 at O_6 O_387002 B379 B380 B381 B386 B387 B394 HB hHeld ⊢
   refine Pu 0 89 8 1 ?_
   refine Ta 1 90 8 3 ?_
   refine Ta 2 91 8 7 ?_
   refine On 3 92 8 15 (fun K hK => ?_)
   refine Gs Try.func71 #[.agg #[.int .i64 ((rd_T43 l0_2 x80_2).f0), .int .i64 ((rd_T43 l0_2 x80_2).f1), .int .i64 ((rd_T43 l0_2 x80_2).f2), .string ((rd_T43 l0_2 x80_2).f3), .slice A393_4 ((rd_T43 l0_2 x80_2).f4).length c393_4]] ?_
   with_reducible refine (impl_Node_copied.calls ((rd_T43 l0_2 x80_2).f0) ((rd_T43 l0_2 x80_2).f1) ((rd_T43 l0_2 x80_2).f2) ((rd_T43 l0_2 x80_2).f3) _ _ ((rd_T43 l0_2 x80_2).f4) t396 t397 t398 t399 t400 _ ?s1 ?s2 A87.out).mono ?_
   (case s1 => exact Xc HR393_4)
   (case s2 => exact HC393_4.out)
   rintro e w90 ⟨v401, rfl, ho0, hb⟩
   refine ⟨_, rfl, ?_⟩
   replace O_387002 := Am (Kd.S_elder' (Xq O_387002) (Kd.R_base ho0) hb)
   have HO402 := Am (Kd.R_lower (Kd.R_new' ho0 (Kd.R_lt (Xq O_6))) (below_size Xi))
   replace O_6 := Am (Kd.R_elder' (Xq O_6) (Kd.R_base ho0) hb)
   replace B379 := Xbb B379 hb
   replace B380 := Xbb B380 hb
   replace B381 := Xbb B381 hb
   replace B386 := Xbb B386 hb
   replace B387 := Xbb B387 hb
   replace B394 := Xbb B394 hb
   replace HB := Xhb hb
   try clear hb
   try clear hb2
   try clear hk
   try clear hi
   try clear ho0
   obtain ⟨Ao92, co92, eo92⟩ := Kd.R_slice HO402.out
   (first | subst eo92 | (injection eo92 with f1_ f2_ f3_; have f4_ := f1_.symm; have f5_ := f3_.symm; clear f1_ f2_ f3_; subst f4_; subst f5_))
   refine hK.out _ _ ⟨Xk B386 0, Xk B386 1, Xk B386 2, Xk B394 0, Xk B394 1, Xk B394 2, Xk B394 3, Xk B394 4⟩ (fun hHeld => ?_)
   clear hK K
   refine Xno ?_
   refine On 4 93 8 31 (fun K hK => ?_)
   refine value_ (w1 := ?_) (v := ?_) (by rfl) rfl ?_ ?_
   rotate_left 2
   ·go_simp
    constructor
    ·rfl
    rfl
   refine hK.out _ _ ⟨(blk_cell (blk_alloc B386.out _) 0).trans rfl, (blk_cell (blk_alloc B386.out _) 1).trans rfl, (blk_cell (blk_alloc B386.out _) 2).trans rfl, (blk_cell (blk_alloc B394.out _) 0).trans rfl, (blk_cell (blk_alloc B394.out _) 1).trans rfl, (blk_cell (blk_alloc B394.out _) 2).trans rfl, (blk_cell (blk_alloc B394.out _) 3).trans rfl, (blk_cell (blk_alloc B394.out _) 4).trans rfl⟩ (fun hHeld => ?_)
   clear hK K
   refine Xno ?_
   refine On 5 94 8 63 (fun K hK => ?_)
   refine Kd.S_append_step k43 (w0 := w) w.heap.size (by rfl) (.tmp 90) (.tmp 93) 27 43 (.agg #[(.int .i64 0), (.int .i64 0), (.int .i64 0), (.string ⟨#[]⟩), (.slice none 0 0)]) 64 rfl Try.underlying27 info43 rfl (by decide) (by omega) u387002 x387002_2 (⟨t396, t397, t398, t399, t400⟩ : S43) [.int .i64 t396, .int .i64 t397, .int .i64 t398, .string t399, .slice Ao92 t400.length co92] (fun k_ => some k_ ≠ (.slice Ao30 t383.length co30 : Value).ownBlock ∧ k_ ≠ gb394) (fun k_ => some k_ = (.slice Ao92 t400.length co92 : Value).ownBlock) rfl rfl ?aP (fun k_ hk_ => ((Kd.R_mono (ok' := fun k_ => ((fun k_ => some k_ ≠ (.slice Ao30 t383.length co30 : Value).ownBlock ∧ k_ ≠ gb394)) k_ ∧ some k_ ≠ (u387002 : Value).ownBlock) (Kd.R_types (Kd.R_apart' (HO402.out) (Kd.S_typed O_387002.out) (by decide)) B394.out (by decide)) (fun k_ hk => ⟨⟨hk.1.1.2, hk.2⟩, hk.1.2⟩))).1 k_ hk_.symm) ?aF ?aO ?aB ?aS ?aL ?_
   (case aP => exact k43_mkM _ _ _ (⟨t396, t397, t398, t399, t400⟩ : S43) (Kd.R_mono (Kd.R_tight rfl (Kd.R_mono (ok' := fun k_ => ((fun k_ => some k_ ≠ (.slice Ao30 t383.length co30 : Value).ownBlock ∧ k_ ≠ gb394)) k_ ∧ some k_ ≠ (u387002 : Value).ownBlock) (Kd.R_types (Kd.R_apart' (HO402.out) (Kd.S_typed O_387002.out) (by decide)) B394.out (by decide)) (fun k_ hk => ⟨⟨hk.1.1.2, hk.2⟩, hk.1.2⟩))) (fun _ h_ => h_)))
   (case aB => exact Xi)
   (case aF => exact (fun k_ hk => ⟨Kd.fresh' (Kd.R_lt (Xq O_6)) k_ hk, Kd.freshB (g := gb394) (o := .cells #[.int .i64 ((rd_T43 l0_2 x80_2).f0), .int .i64 ((rd_T43 l0_2 x80_2).f1), .int .i64 ((rd_T43 l0_2 x80_2).f2), .string ((rd_T43 l0_2 x80_2).f3), .slice A393_4 ((rd_T43 l0_2 x80_2).f4).length c393_4] 43 (0, 0)) (Xq' B394) k_ hk⟩))
   (case aO => exact (by (with_reducible repeat (first | apply Kd.S_alloc | apply Kd.S_drewN | apply Kd.S_drew)); exact Kd.S_mono O_387002.out (fun k_ hk => ⟨⟨hk.1.1, hk.1.2⟩, fun e_ => hk.2 e_⟩)))
   (case aS => exact (below_size Xi))
   (case aL => have := LMc88.out; omega)
   intro v404 w91 ho hb hg hat
   rw [← Ny403.out] at ho
   replace O_6 := Am (Kd.R_over' (Xq O_6) (Kd.S_typed (Xq O_387002)) (by decide) hg)
   replace B379 := Am (blk_grown (g := gb379) (o := .cells #[.int .i64 a0_0, .int .i64 a0_1, .slice (some ad393) l0_2.length c0_2] 29 (0, 0)) (Xq' B379) hg (Kd.S_ne O_387002.out B379.out (by decide)))
   replace B380 := Am (blk_grown (g := gb380) (o := .cells #[.int .i64 a1_0, .int .i64 a1_1, .slice A1_2 l1_2.length c1_2] 29 (0, 0)) (Xq' B380) hg (Kd.S_ne O_387002.out B380.out (by decide)))
   replace B381 := Am (blk_grown (g := gb381) (o := .cells #[.int .i64 0, .int .i64 0, .slice none 0 0] 29 (0, 0)) (Xq' B381) hg (Kd.S_ne O_387002.out B381.out (by decide)))
   replace B386 := Am (blk_grown (g := gb386) (o := .cells #[.int .i64 a0_0, .int .i64 x387001_1, u387002] 29 (0, 0)) (Xq' B386) hg (Kd.S_ne O_387002.out B386.out (by decide)))
   replace B387 := Am (blk_grown (g := gb387) (o := XM.mapObj (Value.int .i64) x388000_1) (Xq' B387) hg (XM.S_nem O_387002.out B387.out))
   replace B394 := Am (blk_grown (g := gb394) (o := .cells #[.int .i64 ((rd_T43 l0_2 x80_2).f0), .int .i64 ((rd_T43 l0_2 x80_2).f1), .int .i64 ((rd_T43 l0_2 x80_2).f2), .string ((rd_T43 l0_2 x80_2).f3), .slice A393_4 ((rd_T43 l0_2 x80_2).f4).length c393_4] 43 (0, 0)) (Xq' B394) hg (Kd.S_away O_387002.out (fun _ hk => hk.1.2)))
   replace HB := Am (hb)
   have HO405 := Am (ho)
   clear O_387002
   clear HO402
   clear ho hb hg hat
   obtain ⟨Ao93, co93, eo93⟩ := Kd.S_slice HO405.out
   (first | subst eo93 | (injection eo93 with f1_ f2_ f3_; have f4_ := f1_.symm; have f5_ := f3_.symm; clear f1_ f2_ f3_; subst f4_; subst f5_))
   refine hK.out _ _ ⟨Xk B386 0, Xk B386 1, Xk B386 2, Xk B394 0, Xk B394 1, Xk B394 2, Xk B394 3, Xk B394 4⟩ (fun hHeld => ?_)
   clear hK K
   refine Xno ?_
   refine Pu 6 95 8 127 ?_
   refine last_ (i := 7) (N := none) #[true, true, true, true, true, true, true, true] rfl rfl (one_of HT_.out (by kernel_rfl)) (by decide) (fun K hK => ?_)
   have hs94 : w91.cell? ⟨gb386, 2, none⟩ = some (u387002) := Xk B386 2
   have hfs94 := blk_frozen B386.out 2
   have hns94_0 := NB379_386.out
   have hns94_1 := NB380_386.out
   have hns94_2 := NB381_386.out
   have hns94_4 := NB387_386.out
   have hns94_5 := NB394_386.out
   have hms94_0 := NB386_379.out
   have hms94_1 := NB386_380.out
   have hms94_2 := NB386_381.out
   have hms94_4 := NB386_387.out
   have hms94_5 := NB386_394.out
   refine skip_ (w1 := ?_) (by rfl) rfl ?_ ?_
   rotate_left
   ·go_simp
    rfl
   refine hK.out _ _ ?_
   clear hK K
   refine Dn ?_
   try go_wp2_with (fail)
   go_roundg k2
   case measure => have := HK1.out; have := HK2.out; omega
   case rel => exact ⟨(wrap64 (x80_2 + 1)), (y403), (.slice Ao93 y403.length co93), Xr, H', ⟨by have := HK1.out; have := HK2.out; omega⟩, ⟨by (with_reducible repeat (first | apply Kd.R_alloc | apply Kd.R_drewN | apply Kd.R_drew)); exact Kd.R_mono (Kd.R_far (p := ⟨gb386, 2, none⟩) (Kd.R_types O_6.out B386.out (by decide)) (fun _ hk => hk.2) (.slice Ao93 y403.length co93)) (fun _ hk => trivial)⟩, ⟨by (with_reducible repeat (first | apply Kd.S_alloc | apply Kd.S_drewN | apply Kd.S_drew)); exact Kd.S_mono (Kd.S_far (p := ⟨gb386, 2, none⟩) (Kd.S_types HO405.out B386.out (by decide)) (fun _ hk => hk.2) (.slice Ao93 y403.length co93)) (fun _ hk => hk.1.1)⟩, ⟨by refine Xu ?_; refine blk_far ?_ NB379_386.out _; refine Xu ?_; exact B379.out⟩, ⟨by refine Xu ?_; refine blk_far ?_ NB380_386.out _; refine Xu ?_; exact B380.out⟩, ⟨by refine Xu ?_; refine blk_far ?_ NB381_386.out _; refine Xu ?_; exact B381.out⟩, ⟨by refine Xu ?_; refine blk_put (cs := #[.int .i64 a0_0, .int .i64 x387001_1, u387002]) ?_ 2 _ rfl; refine Xu ?_; exact B386.out⟩, ⟨by refine Xu ?_; refine XM.blk_far ?_ NB387_386.out _; refine Xu ?_; exact B387.out⟩, ⟨Xi⟩⟩
  have H' := Am H
  clear H
  have hnb95 := NB380_379.out
  have hnc95 := NB379_380.out
  have hnb96 := NB380_381.out
  have hnc96 := NB381_380.out
  have hnb97 := NB380_386.out
  have hnc97 := NB386_380.out
  have hnb98 := NB380_387.out
  have hnc98 := NB387_380.out
  obtain ⟨Z99_0, Z99_1, Z99_2⟩ := Xc3 B380
  obtain ⟨F99_0, F99_1, F99_2⟩ := Xf3 B380
  go_wp2
  go_loopg [100] k2 (fun kq v100 w' => ∃ (x100_3 : Int) (x387002_3 : List (S43)) (u387002 : Value), v100 = .int .i64 x100_3 ∧ Aside0 (impl_splice.l2 kq l1_2 (l1_2.length : Int) x100_3 a0_0 x387001_1 x387002_3 x388000_1 = some (r1, r2, r3, r4)) ∧ Aside0 (kq ≤ k2) ∧ Aside0 (Kd.S k43 43 w' w.heap.size (fun _ => True) u387002 x387002_3) ∧ Aside0 (w'.heap[gb379]? = some (.cells #[.int .i64 a0_0, .int .i64 a0_1, (.slice A0_2 l0_2.length c0_2)] 29 (0, 0))) ∧ Aside0 (w'.heap[gb380]? = some (.cells #[.int .i64 a1_0, .int .i64 a1_1, (.slice A1_2 l1_2.length c1_2)] 29 (0, 0))) ∧ Aside0 (w'.heap[gb381]? = some (.cells #[.int .i64 0, .int .i64 0, (.slice none 0 0)] 29 (0, 0))) ∧ Aside0 (w'.heap[gb386]? = some (.cells #[.int .i64 a0_0, .int .i64 x387001_1, u387002] 29 (0, 0))) ∧ Aside0 (w'.heap[gb387]? = some (XM.mapObj (Value.int .i64) x388000_1)) ∧ Aside0 (Below w.heap.size w w'))
  case atStart => exact ⟨(0), (x387002_2), (u387002), Xr, H', Xkr, ⟨by (with_reducible repeat (first | apply Kd.S_alloc | apply Kd.S_drewN | apply Kd.S_drew)); exact Kd.S_mono O_387002.out (fun _ hk => trivial)⟩, (Xp B379), (Xp B380), (Xp B381), (Xp B386), (Xp B387), ⟨Xi⟩⟩
  clear H'
  (try clear c12); (try clear c13); (try clear c13b0); (try clear c32); (try clear c32b0); (try clear c53); (try clear c53b0); (try clear c72); (try clear c72b0); (try clear Z10_0); (try clear Z10_1); (try clear Z10_2); (try clear Z25_0); (try clear Z25_1); (try clear Z25_2); (try clear Z27_0); (try clear Z27_1); (try clear Z27_2); (try clear Z29_0); (try clear Z29_1); (try clear Z29_2); (try clear Z31_0); (try clear Z31_1); (try clear Z31_2); (try clear Z40_0); (try clear Z40_1); (try clear Z40_2); (try clear Z45_0); (try clear Z45_1); (try clear Z45_2); (try clear Z50_0); (try clear Z50_1); (try clear Z50_2); (try clear Z71_0); (try clear Z71_1); (try clear Z71_2); (try clear Z99_0); (try clear Z99_1); (try clear Z99_2); (try clear F10_0); (try clear F10_1); (try clear F10_2); (try clear F25_0); (try clear F25_1); (try clear F25_2); (try clear F27_0); (try clear F27_1); (try clear F27_2); (try clear F29_0); (try clear F29_1); (try clear F29_2); (try clear F31_0); (try clear F31_1); (try clear F31_2); (try clear F40_0); (try clear F40_1); (try clear F40_2); (try clear F45_0); (try clear F45_1); (try clear F45_2); (try clear F50_0); (try clear F50_1); (try clear F50_2); (try clear F71_0); (try clear F71_1); (try clear F71_2); (try clear F99_0); (try clear F99_1); (try clear F99_2)
  obtain ⟨x100_3, x387002_3, u387002, rfl, HA, HK3, O_387002, B379, B380, B381, B386, B387, HB⟩ := hrel
  cases gk with | zero => cases HA.out | succ k3 => ?_
  have H := HA.out
  clear HA
  simp only [impl_splice.l2] at H
  obtain ⟨c100b0, H⟩ | ⟨c100b0, H⟩ := Xit H
  ·obtain ⟨c101b0, H⟩ := Xid H
   obtain ⟨c102b0, H⟩ := Xid H
   replace H := Option.bind_eq_some_iff.mp H
   obtain ⟨⟨t408, t409, t410, t411, t412⟩, A1030, H⟩ := H
   try dsimp only at H
   have A103 := Am A1030
   clear A1030
   have H' := Am H
   clear H
   obtain ⟨ad406, A406_4, c406_4, e406, p406, q406, hx406_0, hx406_1, hx406_2, hx406_3, hx406_4, HC406_4, HR406_4⟩ := at_B43 HR1_2 x100_3 Xa Xa HB
   cases e406
   go_wp2_with (first | ((with_reducible refine gate_dst (N := 14) rfl ?_); refine Xbox 14 #[.int .i64 0, .int .i64 0, .int .i64 0, .string (⟨#[]⟩ : ByteArray), .slice none 0 0] 43 ?_; intro gb407 hg w104 hbox hb; replace O_387002 := Am (Kd.S_below (Kd.S_elderB (Xq O_387002) gb407 (Nat.le_of_eq hg.symm)) hb); have B407 := Am (hbox); have GE407 := Xge hg Xi; replace HB := Xhb hb; have NB379_407 := Xnb hg B379; have NB407_379 := Xns NB379_407; replace B379 := Xbb B379 hb; have NB380_407 := Xnb hg B380; have NB407_380 := Xns NB380_407; replace B380 := Xbb B380 hb; have NB381_407 := Xnb hg B381; have NB407_381 := Xns NB381_407; replace B381 := Xbb B381 hb; have NB386_407 := Xnb hg B386; have NB407_386 := Xns NB386_407; replace B386 := Xbb B386 hb; have NB387_407 := Xnb hg B387; have NB407_387 := Xns NB387_407; replace B387 := Xbb B387 hb; clear hb hbox hg; have hnb105 := NB407_379.out; have hnc105 := NB379_407.out; have hnb106 := NB407_380.out; have hnc106 := NB380_407.out; have hnb107 := NB407_381.out; have hnc107 := NB381_407.out; have hnb108 := NB407_386.out; have hnc108 := NB386_407.out; have hnb109 := NB407_387.out; have hnc109 := NB387_407.out; obtain ⟨Z110_0, Z110_1, Z110_2, Z110_3, Z110_4⟩ := Xc5 B407; obtain ⟨F110_0, F110_1, F110_2, F110_3, F110_4⟩ := Xf5 B407) | ((with_reducible refine gate_store (t := 43) (p := 14) rfl ?_); refine store_event (t := 43) (p := 14) (v := ?vo_w111) (w1 := (((((w104.setCell ⟨gb407, 0, none⟩ (.int .i64 ((rd_T43 l1_2 x100_3).f0))).setCell ⟨gb407, 1, none⟩ (.int .i64 ((rd_T43 l1_2 x100_3).f1))).setCell ⟨gb407, 2, none⟩ (.int .i64 ((rd_T43 l1_2 x100_3).f2))).setCell ⟨gb407, 3, none⟩ (.string ((rd_T43 l1_2 x100_3).f3))).setCell ⟨gb407, 4, none⟩ (.slice A406_4 ((rd_T43 l1_2 x100_3).f4).length c406_4))) ?hg ?ho ?hn ?hr ?_; (case ho => rfl); (case hg => rfl); (case hn => rfl); (case hr => first | (go_simp; done) | (go_simp; rfl)); intro w111 hw; have n0_ : Aside0 (Kd.S k43 43 w111 w.heap.size (fun k_ => k_ ≠ gb407) u387002 x387002_3) := ⟨(by rw [hw]; exact (by (with_reducible repeat (first | apply Kd.S_alloc | apply Kd.S_drewN | apply Kd.S_drew)); exact Kd.S_mono (Kd.S_far (p := ⟨gb407, 4, none⟩) (Kd.S_far (p := ⟨gb407, 3, none⟩) (Kd.S_far (p := ⟨gb407, 2, none⟩) (Kd.S_far (p := ⟨gb407, 1, none⟩) (Kd.S_far (p := ⟨gb407, 0, none⟩) (Kd.S_mono O_387002.out (fun k_ hk => (⟨hk, hk.2⟩ : _ ∧ k_ ≠ gb407))) (fun _ hk => hk.2) (.int .i64 ((rd_T43 l1_2 x100_3).f0))) (fun _ hk => hk.2) (.int .i64 ((rd_T43 l1_2 x100_3).f1))) (fun _ hk => hk.2) (.int .i64 ((rd_T43 l1_2 x100_3).f2))) (fun _ hk => hk.2) (.string ((rd_T43 l1_2 x100_3).f3))) (fun _ hk => hk.2) (.slice A406_4 ((rd_T43 l1_2 x100_3).f4).length c406_4)) (fun _ hk => hk.1.2)))⟩; have n1_ : Aside0 (w111.heap[gb379]? = some (.cells #[.int .i64 a0_0, .int .i64 a0_1, .slice A0_2 l0_2.length c0_2] 29 (0, 0))) := ⟨(by rw [hw]; exact (by refine Xu ?_; refine blk_far ?_ NB379_407.out _; refine Xu ?_; refine blk_far ?_ NB379_407.out _; refine Xu ?_; refine blk_far ?_ NB379_407.out _; refine Xu ?_; refine blk_far ?_ NB379_407.out _; refine Xu ?_; refine blk_far ?_ NB379_407.out _; refine Xu ?_; exact B379.out))⟩; have n2_ : Aside0 (w111.heap[gb380]? = some (.cells #[.int .i64 a1_0, .int .i64 a1_1, .slice (some ad406) l1_2.length c1_2] 29 (0, 0))) := ⟨(by rw [hw]; exact (by refine Xu ?_; refine blk_far ?_ NB380_407.out _; refine Xu ?_; refine blk_far ?_ NB380_407.out _; refine Xu ?_; refine blk_far ?_ NB380_407.out _; refine Xu ?_; refine blk_far ?_ NB380_407.out _; refine Xu ?_; refine blk_far ?_ NB380_407.out _; refine Xu ?_; exact B380.out))⟩; have n3_ : Aside0 (w111.heap[gb381]? = some (.cells #[.int .i64 0, .int .i64 0, .slice none 0 0] 29 (0, 0))) := ⟨(by rw [hw]; exact (by refine Xu ?_; refine blk_far ?_ NB381_407.out _; refine Xu ?_; refine blk_far ?_ NB381_407.out _; refine Xu ?_; refine blk_far ?_ NB381_407.out _; refine Xu ?_; refine blk_far ?_ NB381_407.out _; refine Xu ?_; refine blk_far ?_ NB381_407.out _; refine Xu ?_; exact B381.out))⟩; have n4_ : Aside0 (w111.heap[gb386]? = some (.cells #[.int .i64 a0_0, .int .i64 x387001_1, u387002] 29 (0, 0))) := ⟨(by rw [hw]; exact (by refine Xu ?_; refine blk_far ?_ NB386_407.out _; refine Xu ?_; refine blk_far ?_ NB386_407.out _; refine Xu ?_; refine blk_far ?_ NB386_407.out _; refine Xu ?_; refine blk_far ?_ NB386_407.out _; refine Xu ?_; refine blk_far ?_ NB386_407.out _; refine Xu ?_; exact B386.out))⟩; have n5_ : Aside0 (w111.heap[gb387]? = some (XM.mapObj (Value.int .i64) x388000_1)) := ⟨(by rw [hw]; exact (by refine Xu ?_; refine XM.blk_far ?_ NB387_407.out _; refine Xu ?_; refine XM.blk_far ?_ NB387_407.out _; refine Xu ?_; refine XM.blk_far ?_ NB387_407.out _; refine Xu ?_; refine XM.blk_far ?_ NB387_407.out _; refine Xu ?_; refine XM.blk_far ?_ NB387_407.out _; refine Xu ?_; exact B387.out))⟩; have n6_ : Aside0 (w111.heap[gb407]? = some (.cells #[.int .i64 ((rd_T43 l1_2 x100_3).f0), .int .i64 ((rd_T43 l1_2 x100_3).f1), .int .i64 ((rd_T43 l1_2 x100_3).f2), .string ((rd_T43 l1_2 x100_3).f3), .slice A406_4 ((rd_T43 l1_2 x100_3).f4).length c406_4] 43 (0, 0))) := ⟨(by rw [hw]; exact (by refine Xu ?_; refine blk_put (cs := #[.int .i64 ((rd_T43 l1_2 x100_3).f0), .int .i64 ((rd_T43 l1_2 x100_3).f1), .int .i64 ((rd_T43 l1_2 x100_3).f2), .string ((rd_T43 l1_2 x100_3).f3), .slice none 0 0]) ?_ 4 _ rfl; refine Xu ?_; refine blk_put (cs := #[.int .i64 ((rd_T43 l1_2 x100_3).f0), .int .i64 ((rd_T43 l1_2 x100_3).f1), .int .i64 ((rd_T43 l1_2 x100_3).f2), .string (⟨#[]⟩ : ByteArray), .slice none 0 0]) ?_ 3 _ rfl; refine Xu ?_; refine blk_put (cs := #[.int .i64 ((rd_T43 l1_2 x100_3).f0), .int .i64 ((rd_T43 l1_2 x100_3).f1), .int .i64 0, .string (⟨#[]⟩ : ByteArray), .slice none 0 0]) ?_ 2 _ rfl; refine Xu ?_; refine blk_put (cs := #[.int .i64 ((rd_T43 l1_2 x100_3).f0), .int .i64 0, .int .i64 0, .string (⟨#[]⟩ : ByteArray), .slice none 0 0]) ?_ 1 _ rfl; refine Xu ?_; refine blk_put (cs := #[.int .i64 0, .int .i64 0, .int .i64 0, .string (⟨#[]⟩ : ByteArray), .slice none 0 0]) ?_ 0 _ rfl; refine Xu ?_; exact B407.out))⟩; have n7_ : Aside0 (Below w.heap.size w w111) := ⟨(by rw [hw]; exact Xi)⟩; clear hw; clear O_387002; clear B379; clear B380; clear B381; clear B386; clear B387; clear B407; clear HB; have O_387002 := n0_; have B379 := n1_; have B380 := n2_; have B381 := n3_; have B386 := n4_; have B387 := n5_; have B407 := n6_; have HB := n7_; clear n0_ n1_ n2_ n3_ n4_ n5_ n6_ n7_; obtain ⟨Z112_0, Z112_1, Z112_2, Z112_3, Z112_4⟩ := Xc5 B407; obtain ⟨F112_0, F112_1, F112_2, F112_3, F112_4⟩ := Xf5 B407) | ((with_reducible refine gate_callee (f := 71) rfl ?_); refine Xgo 105 Try.func71 #[.agg #[.int .i64 ((rd_T43 l1_2 x100_3).f0), .int .i64 ((rd_T43 l1_2 x100_3).f1), .int .i64 ((rd_T43 l1_2 x100_3).f2), .string ((rd_T43 l1_2 x100_3).f3), .slice A406_4 ((rd_T43 l1_2 x100_3).f4).length c406_4]] ?_; (with_reducible refine (impl_Node_copied.calls ((rd_T43 l1_2 x100_3).f0) ((rd_T43 l1_2 x100_3).f1) ((rd_T43 l1_2 x100_3).f2) ((rd_T43 l1_2 x100_3).f3) _ _ ((rd_T43 l1_2 x100_3).f4) t408 t409 t410 t411 t412 _ ?s1 ?s2 A103.out).mono ?_); (case s1 => exact Xc HR406_4); (case s2 => exact HC406_4.out); rintro e w113 ⟨v413, rfl, ho0, hb⟩; refine ⟨_, rfl, ?_⟩; replace O_387002 := Am (Kd.S_elder' (Xq O_387002) (Kd.R_base ho0) hb); have HO414 := Am (Kd.R_lower ho0 (below_size Xi)); replace B379 := Xbb B379 hb; replace B380 := Xbb B380 hb; replace B381 := Xbb B381 hb; replace B386 := Xbb B386 hb; replace B387 := Xbb B387 hb; replace B407 := Xbb B407 hb; replace HB := Xhb hb; clear hb; (try clear ho0); obtain ⟨Z114_0, Z114_1, Z114_2, Z114_3, Z114_4⟩ := Xc5 B407; obtain ⟨F114_0, F114_1, F114_2, F114_3, F114_4⟩ := Xf5 B407; obtain ⟨Ao115, co115, eo115⟩ := Kd.R_slice HO414.out; subst eo115) | ((with_reducible refine gate_store (t := 43) (p := 14) rfl ?_); refine store_event (t := 43) (p := 14) (v := ?vo_w116) (w1 := (((((w113.setCell ⟨gb407, 0, none⟩ (.int .i64 t408)).setCell ⟨gb407, 1, none⟩ (.int .i64 t409)).setCell ⟨gb407, 2, none⟩ (.int .i64 t410)).setCell ⟨gb407, 3, none⟩ (.string t411)).setCell ⟨gb407, 4, none⟩ (.slice Ao115 t412.length co115))) ?hg ?ho ?hn ?hr ?_; (case ho => rfl); (case hg => rfl); (case hn => rfl); (case hr => first | (go_simp; done) | (go_simp; rfl)); intro w116 hw; have n0_ : Aside0 (Kd.S k43 43 w116 w.heap.size (fun k_ => some k_ ≠ (.slice Ao115 t412.length co115 : Value).ownBlock ∧ k_ ≠ gb407) u387002 x387002_3) := ⟨(by rw [hw]; exact (by (with_reducible repeat (first | apply Kd.S_alloc | apply Kd.S_drewN | apply Kd.S_drew)); exact Kd.S_mono (Kd.S_far (p := ⟨gb407, 4, none⟩) (Kd.S_far (p := ⟨gb407, 3, none⟩) (Kd.S_far (p := ⟨gb407, 2, none⟩) (Kd.S_far (p := ⟨gb407, 1, none⟩) (Kd.S_far (p := ⟨gb407, 0, none⟩) (Kd.S_mono O_387002.out (fun k_ hk => (⟨hk, hk.1⟩ : _ ∧ k_ ≠ gb407))) (fun _ hk => hk.2) (.int .i64 t408)) (fun _ hk => hk.2) (.int .i64 t409)) (fun _ hk => hk.2) (.int .i64 t410)) (fun _ hk => hk.2) (.string t411)) (fun _ hk => hk.2) (.slice Ao115 t412.length co115)) (fun _ hk => ⟨hk.1.2, hk.1.1⟩)))⟩; have n1_ : Aside0 (Kd.R (Kd.int .i64) 3 w116 w.heap.size (fun _ => True) (.slice Ao115 t412.length co115) t412) := ⟨(by rw [hw]; exact (by (with_reducible repeat (first | apply Kd.R_alloc | apply Kd.R_drewN | apply Kd.R_drew)); exact Kd.R_mono (Kd.R_far (p := ⟨gb407, 4, none⟩) (Kd.R_far (p := ⟨gb407, 3, none⟩) (Kd.R_far (p := ⟨gb407, 2, none⟩) (Kd.R_far (p := ⟨gb407, 1, none⟩) (Kd.R_far (p := ⟨gb407, 0, none⟩) (Kd.R_types HO414.out B407.out (by decide)) (fun _ hk => hk.2) (.int .i64 t408)) (fun _ hk => hk.2) (.int .i64 t409)) (fun _ hk => hk.2) (.int .i64 t410)) (fun _ hk => hk.2) (.string t411)) (fun _ hk => hk.2) (.slice Ao115 t412.length co115)) (fun _ hk => trivial)))⟩; have n2_ : Aside0 (w116.heap[gb379]? = some (.cells #[.int .i64 a0_0, .int .i64 a0_1, .slice A0_2 l0_2.length c0_2] 29 (0, 0))) := ⟨(by rw [hw]; exact (by refine Xu ?_; refine blk_far ?_ NB379_407.out _; refine Xu ?_; refine blk_far ?_ NB379_407.out _; refine Xu ?_; refine blk_far ?_ NB379_407.out _; refine Xu ?_; refine blk_far ?_ NB379_407.out _; refine Xu ?_; refine blk_far ?_ NB379_407.out _; refine Xu ?_; exact B379.out))⟩; have n3_ : Aside0 (w116.heap[gb380]? = some (.cells #[.int .i64 a1_0, .int .i64 a1_1, .slice (some ad406) l1_2.length c1_2] 29 (0, 0))) := ⟨(by rw [hw]; exact (by refine Xu ?_; refine blk_far ?_ NB380_407.out _; refine Xu ?_; refine blk_far ?_ NB380_407.out _; refine Xu ?_; refine blk_far ?_ NB380_407.out _; refine Xu ?_; refine blk_far ?_ NB380_407.out _; refine Xu ?_; refine blk_far ?_ NB380_407.out _; refine Xu ?_; exact B380.out))⟩; have n4_ : Aside0 (w116.heap[gb381]? = some (.cells #[.int .i64 0, .int .i64 0, .slice none 0 0] 29 (0, 0))) := ⟨(by rw [hw]; exact (by refine Xu ?_; refine blk_far ?_ NB381_407.out _; refine Xu ?_; refine blk_far ?_ NB381_407.out _; refine Xu ?_; refine blk_far ?_ NB381_407.out _; refine Xu ?_; refine blk_far ?_ NB381_407.out _; refine Xu ?_; refine blk_far ?_ NB381_407.out _; refine Xu ?_; exact B381.out))⟩; have n5_ : Aside0 (w116.heap[gb386]? = some (.cells #[.int .i64 a0_0, .int .i64 x387001_1, u387002] 29 (0, 0))) := ⟨(by rw [hw]; exact (by refine Xu ?_; refine blk_far ?_ NB386_407.out _; refine Xu ?_; refine blk_far ?_ NB386_407.out _; refine Xu ?_; refine blk_far ?_ NB386_407.out _; refine Xu ?_; refine blk_far ?_ NB386_407.out _; refine Xu ?_; refine blk_far ?_ NB386_407.out _; refine Xu ?_; exact B386.out))⟩; have n6_ : Aside0 (w116.heap[gb387]? = some (XM.mapObj (Value.int .i64) x388000_1)) := ⟨(by rw [hw]; exact (by refine Xu ?_; refine XM.blk_far ?_ NB387_407.out _; refine Xu ?_; refine XM.blk_far ?_ NB387_407.out _; refine Xu ?_; refine XM.blk_far ?_ NB387_407.out _; refine Xu ?_; refine XM.blk_far ?_ NB387_407.out _; refine Xu ?_; refine XM.blk_far ?_ NB387_407.out _; refine Xu ?_; exact B387.out))⟩; have n7_ : Aside0 (w116.heap[gb407]? = some (.cells #[.int .i64 t408, .int .i64 t409, .int .i64 t410, .string t411, .slice Ao115 t412.length co115] 43 (0, 0))) := ⟨(by rw [hw]; exact (by refine Xu ?_; refine blk_put (cs := #[.int .i64 t408, .int .i64 t409, .int .i64 t410, .string t411, .slice A406_4 ((rd_T43 l1_2 x100_3).f4).length c406_4]) ?_ 4 _ rfl; refine Xu ?_; refine blk_put (cs := #[.int .i64 t408, .int .i64 t409, .int .i64 t410, .string ((rd_T43 l1_2 x100_3).f3), .slice A406_4 ((rd_T43 l1_2 x100_3).f4).length c406_4]) ?_ 3 _ rfl; refine Xu ?_; refine blk_put (cs := #[.int .i64 t408, .int .i64 t409, .int .i64 ((rd_T43 l1_2 x100_3).f2), .string ((rd_T43 l1_2 x100_3).f3), .slice A406_4 ((rd_T43 l1_2 x100_3).f4).length c406_4]) ?_ 2 _ rfl; refine Xu ?_; refine blk_put (cs := #[.int .i64 t408, .int .i64 ((rd_T43 l1_2 x100_3).f1), .int .i64 ((rd_T43 l1_2 x100_3).f2), .string ((rd_T43 l1_2 x100_3).f3), .slice A406_4 ((rd_T43 l1_2 x100_3).f4).length c406_4]) ?_ 1 _ rfl; refine Xu ?_; refine blk_put (cs := #[.int .i64 ((rd_T43 l1_2 x100_3).f0), .int .i64 ((rd_T43 l1_2 x100_3).f1), .int .i64 ((rd_T43 l1_2 x100_3).f2), .string ((rd_T43 l1_2 x100_3).f3), .slice A406_4 ((rd_T43 l1_2 x100_3).f4).length c406_4]) ?_ 0 _ rfl; refine Xu ?_; exact B407.out))⟩; have n8_ : Aside0 (Below w.heap.size w w116) := ⟨(by rw [hw]; exact Xi)⟩; clear hw; clear O_387002; clear HO414; clear B379; clear B380; clear B381; clear B386; clear B387; clear B407; clear HB; have O_387002 := n0_; have HO414 := n1_; have B379 := n2_; have B380 := n3_; have B381 := n4_; have B386 := n5_; have B387 := n6_; have B407 := n7_; have HB := n8_; clear n0_ n1_ n2_ n3_ n4_ n5_ n6_ n7_ n8_; obtain ⟨Z117_0, Z117_1, Z117_2, Z117_3, Z117_4⟩ := Xc5 B407; obtain ⟨F117_0, F117_1, F117_2, F117_3, F117_4⟩ := Xf5 B407) | ((with_reducible refine gate_dst (N := 109) rfl ?_); refine XM.lookup_event (enc := (Value.int .i64)) rfl (N := 109) rfl 138 _ _ rfl (0 : Int) t408 (g := gb387) (xs := x388000_1) rfl rfl (by first | (refine Xu ?_; exact B387.out)) Try.underlying138 Try.underlying3 (by first | rfl | (go_simp; done) | (go_simp; rfl)) ?_))
   go_loopg [114] k3 (fun kq v114 w' => ∃ (x114_4 : Int) (x408004_4 : List Int), v114 = .int .i64 x114_4 ∧ Aside0 (impl_splice.l3 kq l1_2 (l1_2.length : Int) x100_3 (t412.length : Int) x114_4 a0_0 x387001_1 x387002_3 x388000_1 (XM.get (0 : Int) x388000_1 t408) t409 t410 t411 x408004_4 = some (r1, r2, r3, r4)) ∧ Aside0 (kq ≤ k3) ∧ Aside0 (Kd.S k43 43 w' w.heap.size (fun k_ => some k_ ≠ ((.slice Ao115 t412.length co115) : Value).ownBlock ∧ k_ ≠ gb407) u387002 x387002_3) ∧ Aside0 (Kd.R (Kd.int .i64) 3 w' w.heap.size (fun _ => True) (.slice Ao115 t412.length co115) x408004_4) ∧ Aside0 (w'.heap[gb379]? = some (.cells #[.int .i64 a0_0, .int .i64 a0_1, (.slice A0_2 l0_2.length c0_2)] 29 (0, 0))) ∧ Aside0 (w'.heap[gb380]? = some (.cells #[.int .i64 a1_0, .int .i64 a1_1, (.slice (some ad406) l1_2.length c1_2)] 29 (0, 0))) ∧ Aside0 (w'.heap[gb381]? = some (.cells #[.int .i64 0, .int .i64 0, (.slice none 0 0)] 29 (0, 0))) ∧ Aside0 (w'.heap[gb386]? = some (.cells #[.int .i64 a0_0, .int .i64 x387001_1, u387002] 29 (0, 0))) ∧ Aside0 (w'.heap[gb387]? = some (XM.mapObj (Value.int .i64) x388000_1)) ∧ Aside0 (w'.heap[gb407]? = some (.cells #[.int .i64 (XM.get (0 : Int) x388000_1 t408), .int .i64 t409, .int .i64 t410, .string t411, (.slice Ao115 t412.length co115)] 43 (0, 0))) ∧ Aside0 (Below w.heap.size w w'))
   case atStart => exact ⟨(0), (t412), Xr, H', Xkr, ⟨by (with_reducible repeat (first | apply Kd.S_alloc | apply Kd.S_drewN | apply Kd.S_drew)); exact Kd.S_mono (Kd.S_far (p := ⟨gb407, 0, none⟩) (Kd.S_mono O_387002.out (fun k_ hk => (⟨hk, hk.2⟩ : _ ∧ k_ ≠ gb407))) (fun _ hk => hk.2) (.int .i64 (XM.get (0 : Int) x388000_1 t408))) (fun _ hk => ⟨hk.1.1, hk.1.2⟩)⟩, ⟨by (with_reducible repeat (first | apply Kd.R_alloc | apply Kd.R_drewN | apply Kd.R_drew)); exact Kd.R_mono (Kd.R_far (p := ⟨gb407, 0, none⟩) (Kd.R_types HO414.out B407.out (by decide)) (fun _ hk => hk.2) (.int .i64 (XM.get (0 : Int) x388000_1 t408))) (fun _ hk => trivial)⟩, ⟨by refine Xu ?_; refine blk_far ?_ NB379_407.out _; refine Xu ?_; exact B379.out⟩, ⟨by refine Xu ?_; refine blk_far ?_ NB380_407.out _; refine Xu ?_; exact B380.out⟩, ⟨by refine Xu ?_; refine blk_far ?_ NB381_407.out _; refine Xu ?_; exact B381.out⟩, ⟨by refine Xu ?_; refine blk_far ?_ NB386_407.out _; refine Xu ?_; exact B386.out⟩, ⟨by refine Xu ?_; refine XM.blk_far ?_ NB387_407.out _; refine Xu ?_; exact B387.out⟩, ⟨by refine Xu ?_; refine blk_put (cs := #[.int .i64 t408, .int .i64 t409, .int .i64 t410, .string t411, .slice Ao115 t412.length co115]) ?_ 0 _ rfl; refine Xu ?_; exact B407.out⟩, ⟨Xi⟩⟩
   clear H'
   (try clear c12); (try clear c13); (try clear c13b0); (try clear c32); (try clear c32b0); (try clear c53); (try clear c53b0); (try clear c72); (try clear c72b0); (try clear c100); (try clear c100b0); (try clear c101); (try clear c101b0); (try clear c102); (try clear c102b0); (try clear Z10_0); (try clear Z10_1); (try clear Z10_2); (try clear Z110_0); (try clear Z110_1); (try clear Z110_2); (try clear Z110_3); (try clear Z110_4); (try clear Z112_0); (try clear Z112_1); (try clear Z112_2); (try clear Z112_3); (try clear Z112_4); (try clear Z114_0); (try clear Z114_1); (try clear Z114_2); (try clear Z114_3); (try clear Z114_4); (try clear Z117_0); (try clear Z117_1); (try clear Z117_2); (try clear Z117_3); (try clear Z117_4); (try clear Z25_0); (try clear Z25_1); (try clear Z25_2); (try clear Z27_0); (try clear Z27_1); (try clear Z27_2); (try clear Z29_0); (try clear Z29_1); (try clear Z29_2); (try clear Z31_0); (try clear Z31_1); (try clear Z31_2); (try clear Z40_0); (try clear Z40_1); (try clear Z40_2); (try clear Z45_0); (try clear Z45_1); (try clear Z45_2); (try clear Z50_0); (try clear Z50_1); (try clear Z50_2); (try clear Z71_0); (try clear Z71_1); (try clear Z71_2); (try clear Z99_0); (try clear Z99_1); (try clear Z99_2); (try clear F10_0); (try clear F10_1); (try clear F10_2); (try clear F110_0); (try clear F110_1); (try clear F110_2); (try clear F110_3); (try clear F110_4); (try clear F112_0); (try clear F112_1); (try clear F112_2); (try clear F112_3); (try clear F112_4); (try clear F114_0); (try clear F114_1); (try clear F114_2); (try clear F114_3); (try clear F114_4); (try clear F117_0); (try clear F117_1); (try clear F117_2); (try clear F117_3); (try clear F117_4); (try clear F25_0); (try clear F25_1); (try clear F25_2); (try clear F27_0); (try clear F27_1); (try clear F27_2); (try clear F29_0); (try clear F29_1); (try clear F29_2); (try clear F31_0); (try clear F31_1); (try clear F31_2); (try clear F40_0); (try clear F40_1); (try clear F40_2); (try clear F45_0); (try clear F45_1); (try clear F45_2); (try clear F50_0); (try clear F50_1); (try clear F50_2); (try clear F71_0); (try clear F71_1); (try clear F71_2); (try clear F99_0); (try clear F99_1); (try clear F99_2); (try clear hx406_0); (try clear hx406_1); (try clear hx406_2); (try clear hx406_3); (try clear hx406_4); (try clear p406); (try clear q406)
   obtain ⟨x114_4, x408004_4, rfl, HA, HK4, O_387002, O_408004, B379, B380, B381, B386, B387, B407, HB⟩ := hrel
   have hl408004_4 := (Kd.R_reads' O_408004.out).1
   rw [hl408004_4] at O_408004
   (try simp only [hl408004_4])
   (try simp only [hl408004_4] at B379)
   (try simp only [hl408004_4] at B380)
   (try simp only [hl408004_4] at B381)
   (try simp only [hl408004_4] at B386)
   (try simp only [hl408004_4] at B387)
   (try simp only [hl408004_4] at B407)
   (try simp only [hl408004_4] at O_387002)
   cases gk with | zero => cases HA.out | succ k4 => ?_
   have H := HA.out
   clear HA
   simp only [impl_splice.l3] at H
   obtain ⟨c118b0, H⟩ | ⟨c118b0, H⟩ := Xit H
   ·obtain ⟨c119b0, H⟩ := Xid H
    obtain ⟨c120b0, H⟩ := Xid H
    obtain ⟨y416, hy416⟩ : ∃ y_ : List Int, y_ = (x408004_4.set (x114_4 : Int).toNat (XM.get (0 : Int) x388000_1 (rd x408004_4 x114_4))) := ⟨_, rfl⟩
    replace H : (impl_splice.l3 k4 l1_2 (l1_2.length : Int) x100_3 (t412.length : Int) (wrap64 (x114_4 + 1)) a0_0 x387001_1 x387002_3 x388000_1 (XM.get (0 : Int) x388000_1 t408) t409 t410 t411 y416) = some (r1, r2, r3, r4) := by first | (rw [hy416]; with_reducible exact H) | (have H2_ := (Option.bind_some _ _).symm.trans H; rw [hy416]; with_reducible exact H2_) | (have H2_ := (Option.bind_some _ _).symm.trans H; with_reducible exact H2_) | with_reducible exact H | (rw [hy416]; exact H) | exact H
    have Ny416 := Am hy416
    clear hy416
    have H' := Am H
    clear H
    have p415 : 0 ≤ (x114_4 : Int) := Xo
    have q415 : x114_4 < (x408004_4.length : Int) := Xo
    obtain ⟨ad415, e415, hx415_0⟩ := Kd.at_int (Kd.R_reads' O_408004.out).2.2 x114_4 p415 q415
    cases e415
    replace p415 := eq_true p415
    replace q415 := eq_true q415
    have hnb122 := NB407_379.out
    have hnc122 := NB379_407.out
    have hnb123 := NB407_380.out
    have hnc123 := NB380_407.out
    have hnb124 := NB407_381.out
    have hnc124 := NB381_407.out
    have hnb125 := NB407_386.out
    have hnc125 := NB386_407.out
    have hnb126 := NB407_387.out
    have hnc126 := NB387_407.out
    obtain ⟨Z127_0, Z127_1, Z127_2, Z127_3, Z127_4⟩ := Xc5 B407
    obtain ⟨F127_0, F127_1, F127_2, F127_3, F127_4⟩ := Xf5 B407
    have p121 : 0 ≤ (x114_4 : Int) := Xo
    have q121 : (x114_4 : Int) < ((x408004_4.length : Int) : Int) := Xo
    obtain ⟨go121, co121, eo121, gb121, gl121, cl121, HG121⟩ := Kd.R_form O_408004.out (by omega)
    (first | cases eo121 | (injection eo121 with ea_ en_ ec_; (first | subst ea_ | (injection ea_ with ea_; subst ea_)); subst ec_; clear en_))
    have GB121 := Am gb121
    have GG121 := Am HG121
    clear gb121 gl121 HG121
    (first | simp only [add_plain] at hx415_0 | skip)
    obtain ⟨hx121_0, hf121_0⟩ := Kd.R_celln 0 O_408004.out (x114_4 : Int) p121 q121
    replace p121 := eq_true p121
    replace q121 := eq_true q121
    have HP128 := Kd.R_putg O_408004.out (x114_4 : Int) (XM.get (0 : Int) x388000_1 (rd x408004_4 x114_4))
    go_wp2_with (first | ((with_reducible refine gate_dst (N := 124) rfl ?_); refine XM.lookup_event (enc := (Value.int .i64)) rfl (N := 124) rfl 138 _ _ rfl (0 : Int) (rd x408004_4 x114_4) (g := gb387) (xs := x388000_1) rfl rfl (by first | (refine Xu ?_; exact B387.out)) Try.underlying138 Try.underlying3 (by first | rfl | (go_simp; done) | (go_simp; rfl)) ?_) | ((with_reducible refine gate_store (t := 3) (p := 125) rfl ?_); refine store_event (t := 3) (p := 125) (v := ?vo_w129) (w1 := (wr.setCell ⟨go121, (x114_4 : Int).toNat, none⟩ (.int .i64 (XM.get (0 : Int) x388000_1 (rd x408004_4 x114_4))))) ?hg ?ho ?hn ?hr ?_; (case ho => rfl); (case hg => rfl); (case hn => rfl); (case hr => first | (go_simp; done) | (go_simp; rfl)); intro w129 hw; have hg : wr.grownBy w129 (some go121) := (by rw [hw]; exact HP128.2); have hp_ : Kd.R (Kd.int .i64) 3 w129 w.heap.size (fun _ => True) (.slice (some ⟨go121, 0, none⟩) x408004_4.length co115) y416 := (by rw [hw, Ny416.out]; exact HP128.1); clear HP128; replace O_387002 := Am (Kd.S_after (v := (.slice (some ⟨go121, 0, none⟩) x408004_4.length co115)) (v1 := (.slice (some ⟨go121, 0, none⟩) x408004_4.length co115)) (ok := (fun k_ => k_ ≠ gb407)) (by (with_reducible repeat (first | apply Kd.S_alloc | apply Kd.S_drewN | apply Kd.S_drew)); exact Kd.S_mono O_387002.out (fun _ hk => ⟨hk.2, hk.1⟩)) hg (.inl rfl)); replace B379 := Am (blk_grown (g := gb379) (o := .cells #[.int .i64 a0_0, .int .i64 a0_1, .slice A0_2 l0_2.length c0_2] 29 (0, 0)) (Xq' B379) hg (Kd.R_ne O_408004.out B379.out (by decide))); replace B380 := Am (blk_grown (g := gb380) (o := .cells #[.int .i64 a1_0, .int .i64 a1_1, .slice (some ad406) l1_2.length c1_2] 29 (0, 0)) (Xq' B380) hg (Kd.R_ne O_408004.out B380.out (by decide))); replace B381 := Am (blk_grown (g := gb381) (o := .cells #[.int .i64 0, .int .i64 0, .slice none 0 0] 29 (0, 0)) (Xq' B381) hg (Kd.R_ne O_408004.out B381.out (by decide))); replace B386 := Am (blk_grown (g := gb386) (o := .cells #[.int .i64 a0_0, .int .i64 x387001_1, u387002] 29 (0, 0)) (Xq' B386) hg (Kd.R_ne O_408004.out B386.out (by decide))); replace B387 := Am (blk_grown (g := gb387) (o := XM.mapObj (Value.int .i64) x388000_1) (Xq' B387) hg (XM.R_nem O_408004.out B387.out)); replace B407 := Am (blk_grown (g := gb407) (o := .cells #[.int .i64 (XM.get (0 : Int) x388000_1 t408), .int .i64 t409, .int .i64 t410, .string t411, .slice (some ⟨go121, 0, none⟩) x408004_4.length co115] 43 (0, 0)) (Xq' B407) hg (Kd.R_ne O_408004.out B407.out (by decide))); replace O_408004 := Am (hp_); replace HB := Am ((by rw [hw]; exact below_set (HB.out) GB121.out : Below w.heap.size w w129)); clear hg hw hp_))
    (try simp only [← hl408004_4])
    go_roundg k4
    case measure => have := HK1.out; have := HK2.out; have := HK3.out; have := HK4.out; omega
    case rel => exact ⟨(wrap64 (x114_4 + 1)), (y416), Xr, H', ⟨by have := HK1.out; have := HK2.out; have := HK3.out; have := HK4.out; omega⟩, ⟨by (try simp only [hl408004_4]); (with_reducible repeat (first | apply Kd.S_alloc | apply Kd.S_drewN | apply Kd.S_drew)); exact Kd.S_mono O_387002.out (fun _ hk => ⟨hk.2, hk.1⟩)⟩, ⟨by (try simp only [hl408004_4]); (with_reducible repeat (first | apply Kd.R_alloc | apply Kd.R_drewN | apply Kd.R_drew)); exact O_408004.out⟩, ⟨by (try simp only [hl408004_4]); refine Xu ?_; exact B379.out⟩, ⟨by (try simp only [hl408004_4]); refine Xu ?_; exact B380.out⟩, ⟨by (try simp only [hl408004_4]); refine Xu ?_; exact B381.out⟩, ⟨by (try simp only [hl408004_4]); refine Xu ?_; exact B386.out⟩, ⟨by (try simp only [hl408004_4]); refine Xu ?_; exact B387.out⟩, ⟨by (try simp only [hl408004_4]); refine Xu ?_; exact B407.out⟩, ⟨Xi⟩⟩
   (try simp only [hl408004_4] at c118b0)
   obtain ⟨c130, H⟩ := Xif H
   have LMc130 := Am c130
   clear c130
   obtain ⟨y417, hy417⟩ : ∃ y_ : List (S43), y_ = (x387002_3 ++ [(⟨(XM.get (0 : Int) x388000_1 t408), t409, t410, t411, x408004_4⟩ : S43)]) := ⟨_, rfl⟩
   replace H : (impl_splice.l2 k4 l1_2 (l1_2.length : Int) (wrap64 (x100_3 + 1)) a0_0 x387001_1 y417 x388000_1) = some (r1, r2, r3, r4) := by first | (rw [hy417]; with_reducible exact H) | (have H2_ := (Option.bind_some _ _).symm.trans H; rw [hy417]; with_reducible exact H2_) | (have H2_ := (Option.bind_some _ _).symm.trans H; with_reducible exact H2_) | with_reducible exact H | (rw [hy417]; exact H) | exact H
   have Ny417 := Am hy417
   clear hy417
   have H' := Am H
   clear H
   have hnb131 := NB386_379.out
   have hnc131 := NB379_386.out
   have hnb132 := NB386_380.out
   have hnc132 := NB380_386.out
   have hnb133 := NB386_381.out
   have hnc133 := NB381_386.out
   have hnb134 := NB386_387.out
   have hnc134 := NB387_386.out
   have hnb135 := NB386_407.out
   have hnc135 := NB407_386.out
   obtain ⟨Z136_0, Z136_1, Z136_2⟩ := Xc3 B386
   obtain ⟨F136_0, F136_1, F136_2⟩ := Xf3 B386
   have hnb137 := NB407_379.out
   have hnc137 := NB379_407.out
   have hnb138 := NB407_380.out
   have hnc138 := NB380_407.out
   have hnb139 := NB407_381.out
   have hnc139 := NB381_407.out
   have hnb140 := NB407_387.out
   have hnc140 := NB387_407.out
   obtain ⟨Z141_0, Z141_1, Z141_2, Z141_3, Z141_4⟩ := Xc5 B407
   obtain ⟨F141_0, F141_1, F141_2, F141_3, F141_4⟩ := Xf5 B407
   go_wp2_with (first | ((with_reducible refine gate_builtin (b := .append) (xs := #[.tmp 128, .tmp 130]) rfl ?_); at_builtin; refine Kd.S_append k43 (w0 := w) w.heap.size rfl (.tmp 128) (.tmp 130) 27 43 (.agg #[(.int .i64 0), (.int .i64 0), (.int .i64 0), (.string ⟨#[]⟩), (.slice none 0 0)]) 64 rfl Try.underlying27 info43 rfl (by decide) (by omega) u387002 x387002_3 (⟨(XM.get (0 : Int) x388000_1 t408), t409, t410, t411, x408004_4⟩ : S43) [.int .i64 (XM.get (0 : Int) x388000_1 t408), .int .i64 t409, .int .i64 t410, .string t411, .slice Ao115 x408004_4.length co115] (fun k_ => k_ ≠ gb407) (fun k_ => some k_ = (.slice Ao115 x408004_4.length co115 : Value).ownBlock) rfl rfl ?aP (fun k_ hk_ => ((Kd.R_mono (ok' := fun k_ => ((fun k_ => k_ ≠ gb407)) k_ ∧ some k_ ≠ (u387002 : Value).ownBlock) (Kd.R_types (Kd.R_apart' (O_408004.out) (Kd.S_typed O_387002.out) (by decide)) B407.out (by decide)) (fun k_ hk => ⟨hk.2, hk.1.2⟩))).1 k_ hk_.symm) ?aF ?aO ?aB ?aS ?aL ?_; (case aP => exact k43_mkM _ _ _ (⟨(XM.get (0 : Int) x388000_1 t408), t409, t410, t411, x408004_4⟩ : S43) (Kd.R_mono (Kd.R_tight rfl (Kd.R_mono (ok' := fun k_ => ((fun k_ => k_ ≠ gb407)) k_ ∧ some k_ ≠ (u387002 : Value).ownBlock) (Kd.R_types (Kd.R_apart' (O_408004.out) (Kd.S_typed O_387002.out) (by decide)) B407.out (by decide)) (fun k_ hk => ⟨hk.2, hk.1.2⟩))) (fun _ h_ => h_))); (case aB => exact Xi); (case aF => exact (fun k_ hk => Kd.freshB (g := gb407) (o := .cells #[.int .i64 (XM.get (0 : Int) x388000_1 t408), .int .i64 t409, .int .i64 t410, .string t411, .slice Ao115 x408004_4.length co115] 43 (0, 0)) (Xq' B407) k_ hk)); (case aO => exact (by (with_reducible repeat (first | apply Kd.S_alloc | apply Kd.S_drewN | apply Kd.S_drew)); exact Kd.S_mono O_387002.out (fun k_ hk => ⟨hk.2, fun e_ => hk.1 e_⟩))); (case aS => exact (below_size Xi)); (case aL => have := LMc130.out; omega); intro v418 w142 ho hb hg hat; rw [← Ny417.out] at ho; replace B379 := Am (blk_grown (g := gb379) (o := .cells #[.int .i64 a0_0, .int .i64 a0_1, .slice A0_2 l0_2.length c0_2] 29 (0, 0)) (Xq' B379) hg (Kd.S_ne O_387002.out B379.out (by decide))); replace B380 := Am (blk_grown (g := gb380) (o := .cells #[.int .i64 a1_0, .int .i64 a1_1, .slice (some ad406) l1_2.length c1_2] 29 (0, 0)) (Xq' B380) hg (Kd.S_ne O_387002.out B380.out (by decide))); replace B381 := Am (blk_grown (g := gb381) (o := .cells #[.int .i64 0, .int .i64 0, .slice none 0 0] 29 (0, 0)) (Xq' B381) hg (Kd.S_ne O_387002.out B381.out (by decide))); replace B386 := Am (blk_grown (g := gb386) (o := .cells #[.int .i64 a0_0, .int .i64 x387001_1, u387002] 29 (0, 0)) (Xq' B386) hg (Kd.S_ne O_387002.out B386.out (by decide))); replace B387 := Am (blk_grown (g := gb387) (o := XM.mapObj (Value.int .i64) x388000_1) (Xq' B387) hg (XM.S_nem O_387002.out B387.out)); replace B407 := Am (blk_grown (g := gb407) (o := .cells #[.int .i64 (XM.get (0 : Int) x388000_1 t408), .int .i64 t409, .int .i64 t410, .string t411, .slice Ao115 x408004_4.length co115] 43 (0, 0)) (Xq' B407) hg (Kd.S_away O_387002.out (fun _ hk => hk.2))); replace HB := Am (hb); have HO419 := Am (ho); clear O_387002; clear O_408004; clear ho hb hg hat; obtain ⟨Ao143, co143, eo143⟩ := Kd.S_slice HO419.out; subst eo143; obtain ⟨Z144_0, Z144_1, Z144_2⟩ := Xc3 B386; obtain ⟨F144_0, F144_1, F144_2⟩ := Xf3 B386))
   (try simp only [← hl408004_4])
   go_roundg k4
   case measure => have := HK1.out; have := HK2.out; have := HK3.out; have := HK4.out; omega
   case rel => exact ⟨(wrap64 (x100_3 + 1)), (y417), (.slice Ao143 y417.length co143), Xr, H', ⟨by have := HK1.out; have := HK2.out; have := HK3.out; have := HK4.out; omega⟩, ⟨by (try simp only [hl408004_4]); (with_reducible repeat (first | apply Kd.S_alloc | apply Kd.S_drewN | apply Kd.S_drew)); exact Kd.S_mono (Kd.S_far (p := ⟨gb386, 2, none⟩) (Kd.S_types HO419.out B386.out (by decide)) (fun _ hk => hk.2) (.slice Ao143 y417.length co143)) (fun _ hk => trivial)⟩, ⟨by (try simp only [hl408004_4]); refine Xu ?_; refine blk_far ?_ NB379_386.out _; refine Xu ?_; exact B379.out⟩, ⟨by (try simp only [hl408004_4]); refine Xu ?_; refine blk_far ?_ NB380_386.out _; refine Xu ?_; exact B380.out⟩, ⟨by (try simp only [hl408004_4]); refine Xu ?_; refine blk_far ?_ NB381_386.out _; refine Xu ?_; exact B381.out⟩, ⟨by (try simp only [hl408004_4]); refine Xu ?_; refine blk_put (cs := #[.int .i64 a0_0, .int .i64 x387001_1, u387002]) ?_ 2 _ rfl; refine Xu ?_; exact B386.out⟩, ⟨by (try simp only [hl408004_4]); refine Xu ?_; refine XM.blk_far ?_ NB387_386.out _; refine Xu ?_; exact B387.out⟩, ⟨Xi⟩⟩
  obtain ⟨t420, A145, H⟩ := Xbi H
  try dsimp only at H
  obtain ⟨t421, A146, H⟩ := Xbi H
  try dsimp only at H
  have HC147 := Am H
  clear H
  obtain ⟨Ao148, co148, eo148⟩ := Kd.S_slice O_387002.out
  subst eo148
  go_upto_if 135 with (first | ((with_reducible refine gate_callee (f := 126) rfl ?_); refine Xgo 134 Try.func126 #[.pointer (some ⟨gb386, 0, none⟩)] ?_; (with_reducible refine (impl_Doc_sort.calls gb386 a0_0 x387001_1 (fun k_ => (((((True ∧ k_ ≠ gb379) ∧ k_ ≠ gb380) ∧ k_ ≠ gb381) ∧ k_ ≠ gb386) ∧ k_ ≠ gb387)) (.slice Ao148 x387002_3.length co148) x387002_3 t420 w _ ?s1 ?s2 ?s3 A145.out).mono ?_); (case s1 => exact Xi); (case s2 => exact (Xq' B386)); (case s3 => (with_reducible repeat (first | apply Kd.S_alloc | apply Kd.S_drewN | apply Kd.S_drew)); exact (XM.S_typesm (Kd.S_types (Kd.S_types (Kd.S_types (Kd.S_types O_387002.out B379.out (by decide)) B380.out (by decide)) B381.out (by decide)) B386.out (by decide)) B387.out)); rintro e w149 ⟨rfl, hy0, hb, hkp⟩; refine ⟨_, rfl, ?_⟩; replace O_387002 := Am (hy0); replace B379 := Am (blk_kept (Xq' B379) hkp (fun hs_ => (hs_.1.1.1.1.2) rfl)); replace B380 := Am (blk_kept (Xq' B380) hkp (fun hs_ => (hs_.1.1.1.2) rfl)); replace B381 := Am (blk_kept (Xq' B381) hkp (fun hs_ => (hs_.1.1.2) rfl)); replace B386 := Am (blk_kept (Xq' B386) hkp (fun hs_ => (hs_.1.2) rfl)); replace B387 := Am (blk_kept (Xq' B387) hkp (fun hs_ => (hs_.2) rfl)); replace HB := Am (hb); (try clear hb); (try clear hkp); (try clear hy0)) | ((with_reducible refine gate_callee (f := 68) rfl ?_); refine goesL_ (some 135) rfl rfl Try.func68 (by kernel_rfl) rfl #[.pointer (some ⟨gb386, 0, none⟩)] rfl (by (try simp only [List.map_toArray, List.map_cons, List.map_nil]); first | done | (rw [show t420.length = x387002_3.length from (Kd.S_reads' O_387002.out).1.symm] <;> rfl) | rfl | (simp only [List.length_drop, List.length_take]; rfl)) ?_; (with_reducible refine (impl_Doc_isDeep.calls k3 gb386 a0_0 x387001_1 Ao148 co148 t420 t421 _ ?s1 ?s2 ?s3 A146.out).mono ?_); (case s1 => rw [show t420.length = x387002_3.length from (Kd.S_reads' O_387002.out).1.symm]; exact (Xq' B386)); (case s2 => exact Xcd (Kd.S_reads' O_387002.out).2.2); (case s3 => rw [show t420.length = x387002_3.length from (Kd.S_reads' O_387002.out).1.symm]; exact (Kd.S_reads' O_387002.out).2.1); rintro e w150 ⟨rfl, hb⟩; refine ⟨_, rfl, ?_⟩; replace O_387002 := Am (Kd.S_below (Xq O_387002) hb); replace B379 := Xbb B379 hb; replace B380 := Xbb B380 hb; replace B381 := Xbb B381 hb; replace B386 := Xbb B386 hb; replace B387 := Xbb B387 hb; replace HB := Xhb hb; clear hb))
  have H := HC147.out
  clear HC147
  by_cases c151 : t421 = true
  ·subst c151
   try rw [if_pos rfl] at H
   simp only [Option.some.injEq, Prod.mk.injEq] at H
   obtain ⟨rfl, rfl, rfl, rfl⟩ := H
   have hnb152 := NB381_379.out
   have hnc152 := NB379_381.out
   have hnb153 := NB381_380.out
   have hnc153 := NB380_381.out
   have hnb154 := NB381_386.out
   have hnc154 := NB386_381.out
   have hnb155 := NB381_387.out
   have hnc155 := NB387_381.out
   obtain ⟨Z156_0, Z156_1, Z156_2⟩ := Xc3 B381
   obtain ⟨F156_0, F156_1, F156_2⟩ := Xf3 B381
   go_wp2_with (first | ((with_reducible refine gate_store (t := 29) (p := 4) rfl ?_); refine store_event (t := 29) (p := 4) (v := ?vo_w157) (w1 := (((w150.setCell ⟨gb381, 0, none⟩ (.int .i64 0)).setCell ⟨gb381, 1, none⟩ (.int .i64 0)).setCell ⟨gb381, 2, none⟩ (.slice none 0 0))) ?hg ?ho ?hn ?hr ?_; (case ho => rfl); (case hg => rfl); (case hn => rfl); (case hr => first | (go_simp; done) | (go_simp; rfl)); intro w157 hw; have n0_ : Aside0 (Kd.S k43 43 w157 w.heap.size (fun k_ => k_ ≠ gb379 ∧ k_ ≠ gb380 ∧ k_ ≠ gb381 ∧ k_ ≠ gb386 ∧ k_ ≠ gb387) (.slice Ao148 x387002_3.length co148) t420) := ⟨(by rw [hw]; exact (by (with_reducible repeat (first | apply Kd.S_alloc | apply Kd.S_drewN | apply Kd.S_drew)); exact Kd.S_mono (Kd.S_far (p := ⟨gb381, 2, none⟩) (Kd.S_far (p := ⟨gb381, 1, none⟩) (Kd.S_far (p := ⟨gb381, 0, none⟩) (Kd.S_types O_387002.out B381.out (by decide)) (fun _ hk => hk.2) (.int .i64 0)) (fun _ hk => hk.2) (.int .i64 0)) (fun _ hk => hk.2) (.slice none 0 0)) (fun _ hk => ⟨hk.1.1.1.1.1.2, ⟨hk.1.1.1.1.2, ⟨hk.1.1.1.2, ⟨hk.1.1.2, hk.1.2⟩⟩⟩⟩)))⟩; have n1_ : Aside0 (w157.heap[gb379]? = some (.cells #[.int .i64 a0_0, .int .i64 a0_1, .slice A0_2 l0_2.length c0_2] 29 (0, 0))) := ⟨(by rw [hw]; exact (by refine Xu ?_; refine blk_far ?_ NB379_381.out _; refine Xu ?_; refine blk_far ?_ NB379_381.out _; refine Xu ?_; refine blk_far ?_ NB379_381.out _; refine Xu ?_; exact B379.out))⟩; have n2_ : Aside0 (w157.heap[gb380]? = some (.cells #[.int .i64 a1_0, .int .i64 a1_1, .slice A1_2 l1_2.length c1_2] 29 (0, 0))) := ⟨(by rw [hw]; exact (by refine Xu ?_; refine blk_far ?_ NB380_381.out _; refine Xu ?_; refine blk_far ?_ NB380_381.out _; refine Xu ?_; refine blk_far ?_ NB380_381.out _; refine Xu ?_; exact B380.out))⟩; have n3_ : Aside0 (w157.heap[gb381]? = some (.cells #[.int .i64 0, .int .i64 0, .slice none 0 0] 29 (0, 0))) := ⟨(by rw [hw]; exact (by refine Xu ?_; refine blk_put (cs := #[.int .i64 0, .int .i64 0, .slice none 0 0]) ?_ 2 _ rfl; refine Xu ?_; refine blk_put (cs := #[.int .i64 0, .int .i64 0, .slice none 0 0]) ?_ 1 _ rfl; refine Xu ?_; refine blk_put (cs := #[.int .i64 0, .int .i64 0, .slice none 0 0]) ?_ 0 _ rfl; refine Xu ?_; exact B381.out))⟩; have n4_ : Aside0 (w157.heap[gb386]? = some (.cells #[.int .i64 a0_0, .int .i64 x387001_1, .slice Ao148 x387002_3.length co148] 29 (0, 0))) := ⟨(by rw [hw]; exact (by refine Xu ?_; refine blk_far ?_ NB386_381.out _; refine Xu ?_; refine blk_far ?_ NB386_381.out _; refine Xu ?_; refine blk_far ?_ NB386_381.out _; refine Xu ?_; exact B386.out))⟩; have n5_ : Aside0 (w157.heap[gb387]? = some (XM.mapObj (Value.int .i64) x388000_1)) := ⟨(by rw [hw]; exact (by refine Xu ?_; refine XM.blk_far ?_ NB387_381.out _; refine Xu ?_; refine XM.blk_far ?_ NB387_381.out _; refine Xu ?_; refine XM.blk_far ?_ NB387_381.out _; refine Xu ?_; exact B387.out))⟩; have n6_ : Aside0 (Below w.heap.size w w157) := ⟨(by rw [hw]; exact Xi)⟩; clear hw; clear O_387002; clear B379; clear B380; clear B381; clear B386; clear B387; clear HB; have O_387002 := n0_; have B379 := n1_; have B380 := n2_; have B381 := n3_; have B386 := n4_; have B387 := n5_; have HB := n6_; clear n0_ n1_ n2_ n3_ n4_ n5_ n6_))
   refine bodyPost_ret (results_ct rfl _ _ gb381 29 #[.int .i64 0, .int .i64 0, .slice none 0 0] (0, 0) _ rfl (Xq' B381) Try.underlying29 rfl (by kernel_rfl)) rfl ?_
   exact ⟨_, Xe, by first | exact Kd.S_nil _ _ _ _ _ | exact Kd.N_nil _ _ _ _ _ | exact Kd.V_nil _ _ _ _ _ | exact Kd.Q_nil _ _ _ _ _ | exact Kd.R_nil _ _ _ _ _, Xi⟩
  replace c151 := Xbf c151
  subst c151
  try rw [if_neg Xft] at H
  simp only [Option.some.injEq, Prod.mk.injEq] at H
  obtain ⟨rfl, rfl, rfl, rfl⟩ := H
  have hnb158 := NB386_379.out
  have hnc158 := NB379_386.out
  have hnb159 := NB386_380.out
  have hnc159 := NB380_386.out
  have hnb160 := NB386_381.out
  have hnc160 := NB381_386.out
  have hnb161 := NB386_387.out
  have hnc161 := NB387_386.out
  obtain ⟨Z162_0, Z162_1, Z162_2⟩ := Xc3 B386
  obtain ⟨F162_0, F162_1, F162_2⟩ := Xf3 B386
  have hnb163 := NB381_379.out
  have hnc163 := NB379_381.out
  have hnb164 := NB381_380.out
  have hnc164 := NB380_381.out
  have hnb165 := NB381_387.out
  have hnc165 := NB387_381.out
  obtain ⟨Z166_0, Z166_1, Z166_2⟩ := Xc3 B381
  obtain ⟨F166_0, F166_1, F166_2⟩ := Xf3 B381
  go_wp2_with (first | ((with_reducible refine gate_store (t := 29) (p := 4) rfl ?_); refine store_event (t := 29) (p := 4) (v := ?vo_w167) (w1 := (((w150.setCell ⟨gb381, 0, none⟩ (.int .i64 a0_0)).setCell ⟨gb381, 1, none⟩ (.int .i64 x387001_1)).setCell ⟨gb381, 2, none⟩ (.slice Ao148 x387002_3.length co148))) ?hg ?ho ?hn ?hr ?_; (case ho => rfl); (case hg => rfl); (case hn => rfl); (case hr => first | (go_simp; done) | (go_simp; rfl)); intro w167 hw; have n0_ : Aside0 (Kd.S k43 43 w167 w.heap.size (fun k_ => k_ ≠ gb379 ∧ k_ ≠ gb380 ∧ k_ ≠ gb381 ∧ k_ ≠ gb386 ∧ k_ ≠ gb387) (.slice Ao148 x387002_3.length co148) t420) := ⟨(by rw [hw]; exact (by (with_reducible repeat (first | apply Kd.S_alloc | apply Kd.S_drewN | apply Kd.S_drew)); exact Kd.S_mono (Kd.S_far (p := ⟨gb381, 2, none⟩) (Kd.S_far (p := ⟨gb381, 1, none⟩) (Kd.S_far (p := ⟨gb381, 0, none⟩) (Kd.S_types O_387002.out B381.out (by decide)) (fun _ hk => hk.2) (.int .i64 a0_0)) (fun _ hk => hk.2) (.int .i64 x387001_1)) (fun _ hk => hk.2) (.slice Ao148 x387002_3.length co148)) (fun _ hk => ⟨hk.1.1.1.1.1.2, ⟨hk.1.1.1.1.2, ⟨hk.1.1.1.2, ⟨hk.1.1.2, hk.1.2⟩⟩⟩⟩)))⟩; have n1_ : Aside0 (w167.heap[gb379]? = some (.cells #[.int .i64 a0_0, .int .i64 a0_1, .slice A0_2 l0_2.length c0_2] 29 (0, 0))) := ⟨(by rw [hw]; exact (by refine Xu ?_; refine blk_far ?_ NB379_381.out _; refine Xu ?_; refine blk_far ?_ NB379_381.out _; refine Xu ?_; refine blk_far ?_ NB379_381.out _; refine Xu ?_; exact B379.out))⟩; have n2_ : Aside0 (w167.heap[gb380]? = some (.cells #[.int .i64 a1_0, .int .i64 a1_1, .slice A1_2 l1_2.length c1_2] 29 (0, 0))) := ⟨(by rw [hw]; exact (by refine Xu ?_; refine blk_far ?_ NB380_381.out _; refine Xu ?_; refine blk_far ?_ NB380_381.out _; refine Xu ?_; refine blk_far ?_ NB380_381.out _; refine Xu ?_; exact B380.out))⟩; have n3_ : Aside0 (w167.heap[gb381]? = some (.cells #[.int .i64 a0_0, .int .i64 x387001_1, .slice Ao148 x387002_3.length co148] 29 (0, 0))) := ⟨(by rw [hw]; exact (by refine Xu ?_; refine blk_put (cs := #[.int .i64 a0_0, .int .i64 x387001_1, .slice none 0 0]) ?_ 2 _ rfl; refine Xu ?_; refine blk_put (cs := #[.int .i64 a0_0, .int .i64 0, .slice none 0 0]) ?_ 1 _ rfl; refine Xu ?_; refine blk_put (cs := #[.int .i64 0, .int .i64 0, .slice none 0 0]) ?_ 0 _ rfl; refine Xu ?_; exact B381.out))⟩; have n4_ : Aside0 (w167.heap[gb386]? = some (.cells #[.int .i64 a0_0, .int .i64 x387001_1, .slice Ao148 x387002_3.length co148] 29 (0, 0))) := ⟨(by rw [hw]; exact (by refine Xu ?_; refine blk_far ?_ NB386_381.out _; refine Xu ?_; refine blk_far ?_ NB386_381.out _; refine Xu ?_; refine blk_far ?_ NB386_381.out _; refine Xu ?_; exact B386.out))⟩; have n5_ : Aside0 (w167.heap[gb387]? = some (XM.mapObj (Value.int .i64) x388000_1)) := ⟨(by rw [hw]; exact (by refine Xu ?_; refine XM.blk_far ?_ NB387_381.out _; refine Xu ?_; refine XM.blk_far ?_ NB387_381.out _; refine Xu ?_; refine XM.blk_far ?_ NB387_381.out _; refine Xu ?_; exact B387.out))⟩; have n6_ : Aside0 (Below w.heap.size w w167) := ⟨(by rw [hw]; exact Xi)⟩; clear hw; clear O_387002; clear B379; clear B380; clear B381; clear B386; clear B387; clear HB; have O_387002 := n0_; have B379 := n1_; have B380 := n2_; have B381 := n3_; have B386 := n4_; have B387 := n5_; have HB := n6_; clear n0_ n1_ n2_ n3_ n4_ n5_ n6_))
  refine bodyPost_ret (results_ct rfl _ _ gb381 29 #[.int .i64 a0_0, .int .i64 x387001_1, .slice Ao148 x387002_3.length co148] (0, 0) _ rfl (Xq' B381) Try.underlying29 rfl (by kernel_rfl)) rfl ?_
  exact ⟨_, Xe, by (with_reducible repeat (first | apply Kd.S_alloc | apply Kd.S_drewN | apply Kd.S_drew)); exact Kd.S_mono O_387002.out (fun _ hk => trivial), Xi⟩
 replace c12 := Xbf c12
 subst c12
 try rw [if_neg Xft] at H
 simp only [Option.some.injEq, Prod.mk.injEq] at H
 obtain ⟨rfl, rfl, rfl, rfl⟩ := H
 have hnb168 := NB381_379.out
 have hnc168 := NB379_381.out
 have hnb169 := NB381_380.out
 have hnc169 := NB380_381.out
 obtain ⟨Z170_0, Z170_1, Z170_2⟩ := Xc3 B381
 obtain ⟨F170_0, F170_1, F170_2⟩ := Xf3 B381
 go_wp2_with (first | ((with_reducible refine gate_store (t := 29) (p := 4) rfl ?_); refine store_event (t := 29) (p := 4) (v := ?vo_w171) (w1 := (((w11.setCell ⟨gb381, 0, none⟩ (.int .i64 0)).setCell ⟨gb381, 1, none⟩ (.int .i64 0)).setCell ⟨gb381, 2, none⟩ (.slice none 0 0))) ?hg ?ho ?hn ?hr ?_; (case ho => rfl); (case hg => rfl); (case hn => rfl); (case hr => first | (go_simp; done) | (go_simp; rfl)); intro w171 hw; have n0_ : Aside0 (w171.heap[gb379]? = some (.cells #[.int .i64 a0_0, .int .i64 a0_1, .slice A0_2 l0_2.length c0_2] 29 (0, 0))) := ⟨(by rw [hw]; exact (by refine Xu ?_; refine blk_far ?_ NB379_381.out _; refine Xu ?_; refine blk_far ?_ NB379_381.out _; refine Xu ?_; refine blk_far ?_ NB379_381.out _; refine Xu ?_; exact B379.out))⟩; have n1_ : Aside0 (w171.heap[gb380]? = some (.cells #[.int .i64 a1_0, .int .i64 a1_1, .slice A1_2 l1_2.length c1_2] 29 (0, 0))) := ⟨(by rw [hw]; exact (by refine Xu ?_; refine blk_far ?_ NB380_381.out _; refine Xu ?_; refine blk_far ?_ NB380_381.out _; refine Xu ?_; refine blk_far ?_ NB380_381.out _; refine Xu ?_; exact B380.out))⟩; have n2_ : Aside0 (w171.heap[gb381]? = some (.cells #[.int .i64 0, .int .i64 0, .slice none 0 0] 29 (0, 0))) := ⟨(by rw [hw]; exact (by refine Xu ?_; refine blk_put (cs := #[.int .i64 0, .int .i64 0, .slice none 0 0]) ?_ 2 _ rfl; refine Xu ?_; refine blk_put (cs := #[.int .i64 0, .int .i64 0, .slice none 0 0]) ?_ 1 _ rfl; refine Xu ?_; refine blk_put (cs := #[.int .i64 0, .int .i64 0, .slice none 0 0]) ?_ 0 _ rfl; refine Xu ?_; exact B381.out))⟩; have n3_ : Aside0 (Below w.heap.size w w171) := ⟨(by rw [hw]; exact Xi)⟩; clear hw; clear B379; clear B380; clear B381; clear HB; have B379 := n0_; have B380 := n1_; have B381 := n2_; have HB := n3_; clear n0_ n1_ n2_ n3_))
 refine bodyPost_ret (results_ct rfl _ _ gb381 29 #[.int .i64 0, .int .i64 0, .slice none 0 0] (0, 0) _ rfl (Xq' B381) Try.underlying29 rfl (by kernel_rfl)) rfl ?_
 exact ⟨_, Xe, by first | exact Kd.S_nil _ _ _ _ _ | exact Kd.N_nil _ _ _ _ _ | exact Kd.V_nil _ _ _ _ _ | exact Kd.Q_nil _ _ _ _ _ | exact Kd.R_nil _ _ _ _ _, Xi⟩
def impl_SpliceSub.f (k : Nat) (a0_0 : Int) (a0_1 : Int) (l0_2 : List (S43)) (a1_0 : Int) (a1_1 : Int) (l1_2 : List (S43)) : Option (Int × Int × (List (S43)) × Int) := (impl_DocOK.f k a0_0 a0_1 l0_2).bind fun t10 => (if t10 = true then ((impl_DocOK.f k a1_0 a1_1 l1_2).bind fun t11 => (if t11 = true then ((impl_splice.f k a0_0 a0_1 l0_2 a1_0 a1_1 l1_2).bind fun bt427 => (some (bt427.1, bt427.2.1, bt427.2.2.1, bt427.2.2.2))) else (some (0, 0, ([] : List (S43)), 1)))) else (some (0, 0, ([] : List (S43)), 1)))
theorem impl_SpliceSub.calls (k : Nat) (a0_0 : Int) (a0_1 : Int) (A0_2 : Option Addr) (c0_2 : Nat) (l0_2 : List (S43)) (a1_0 : Int) (a1_1 : Int) (A1_2 : Option Addr) (c1_2 : Nat) (l1_2 : List (S43)) (r1 : Int) (r2 : Int) (r3 : List (S43)) (r4 : Int) (w : World) (hr0_2 : Kd.C k43 w A0_2 l0_2.length l0_2) (hc0_2 : l0_2.length ≤ c0_2) (hr1_2 : Kd.C k43 w A1_2 l1_2.length l1_2) (hc1_2 : l1_2.length ≤ c1_2) (h : impl_SpliceSub.f k a0_0 a0_1 l0_2 a1_0 a1_1 l1_2 = some (r1, r2, r3, r4)) :
  Calls Try.prog 49 #[.agg #[.int .i64 a0_0, .int .i64 a0_1, .slice A0_2 l0_2.length c0_2], .agg #[.int .i64 a1_0, .int .i64 a1_1, .slice A1_2 l1_2.length c1_2]] w fun e w' => ∃ v2_ : Value, e = .returned (.tuple #[.agg #[.int .i64 r1, .int .i64 r2, v2_], .int .i64 r4]) ∧ Kd.S k43 43 w' w.heap.size (fun _ => True) v2_ r3 ∧ Below w.heap.size w w' := by
 have hu29 := Try.underlying29
 have HR0_2 := Am hr0_2
 have HC0_2 := Am hc0_2
 clear hr0_2 hc0_2
 have HR1_2 := Am hr1_2
 have HC1_2 := Am hc1_2
 clear hr1_2 hc1_2
 have HB := Am (Below.refl w.heap.size w)
 have H : ((impl_DocOK.f k a0_0 a0_1 l0_2).bind fun t40 => (if t40 = true then ((impl_DocOK.f k a1_0 a1_1 l1_2).bind fun t41 => (if t41 = true then ((impl_splice.f k a0_0 a0_1 l0_2 a1_0 a1_1 l1_2).bind fun bt427 => (some (bt427.1, bt427.2.1, bt427.2.2.1, bt427.2.2.2))) else (some (0, 0, ([] : List (S43)), 1)))) else (some (0, 0, ([] : List (S43)), 1)))) = some (r1, r2, r3, r4) := h
 clear h
 have HC3 := Am H
 clear H
 go_enter Try.func49, Try.ntmps49
 go_upto_region 1 with (first | ((with_reducible refine gate_dst (N := 2) rfl ?_); refine Xbx 2 #[.int .i64 a0_0, .int .i64 a0_1, .slice A0_2 l0_2.length c0_2] 29 ?_; intro gb42 hg w4 B42 GE42 hb; replace HB := Xhb hb; clear hb hg) | ((with_reducible refine gate_dst (N := 3) rfl ?_); refine Xbx 3 #[.int .i64 a1_0, .int .i64 a1_1, .slice A1_2 l1_2.length c1_2] 29 ?_; intro gb44 hg w5 B44 GE44 hb; replace HB := Xhb hb; have NB42_44 := Xnb hg B42; have NB44_42 := Xns NB42_44; replace B42 := Xbb B42 hb; clear hb hg) | ((with_reducible refine gate_dst (N := 4) rfl ?_); refine Xbx 4 #[.int .i64 0, .int .i64 0, .slice none 0 0] 29 ?_; intro gb45 hg w6 B45 GE45 hb; replace HB := Xhb hb; have NB42_45 := Xnb hg B42; have NB45_42 := Xns NB42_45; replace B42 := Xbb B42 hb; have NB44_45 := Xnb hg B44; have NB45_44 := Xns NB44_45; replace B44 := Xbb B44 hb; clear hb hg))
 have H := HC3.out
 clear HC3
 obtain ⟨t40, A7, H⟩ := Xbi H
 try dsimp only at H
 by_cases c8 : t40 = true
 ·subst c8
  try rw [if_pos rfl] at H
  obtain ⟨t41, A9, H⟩ := Xbi H
  try dsimp only at H
  have HC10 := Am H
  clear H
  have hnb11 := NB42_44.out
  have hnc11 := NB44_42.out
  have hnb12 := NB42_45.out
  have hnc12 := NB45_42.out
  obtain ⟨Z13_0, Z13_1, Z13_2⟩ := Xc3 B42
  obtain ⟨F13_0, F13_1, F13_2⟩ := Xf3 B42
  go_upto_if 13 with (first | ((with_reducible refine gate_callee (f := 24) rfl ?_); refine Xgo 7 Try.func24 #[.agg #[.int .i64 a0_0, .int .i64 a0_1, .slice A0_2 l0_2.length c0_2]] ?_; (with_reducible refine (impl_DocOK.calls k a0_0 a0_1 _ _ l0_2 true _ ?s1 ?s2 A7.out).mono ?_); (case s1 => exact Xc HR0_2); (case s2 => exact HC0_2.out); rintro e w14 ⟨rfl, hb⟩; refine ⟨_, rfl, ?_⟩; replace B42 := Xbb B42 hb; replace B44 := Xbb B44 hb; replace B45 := Xbb B45 hb; replace HB := Xhb hb; clear hb; have hnb15 := NB44_45.out; have hnc15 := NB45_44.out; obtain ⟨Z16_0, Z16_1, Z16_2⟩ := Xc3 B44; obtain ⟨F16_0, F16_1, F16_2⟩ := Xf3 B44) | (go_at_call 24; (with_reducible refine (impl_DocOK.calls k a1_0 a1_1 _ _ l1_2 t41 _ ?s1 ?s2 A9.out).mono ?_); (case s1 => exact Xc HR1_2); (case s2 => exact HC1_2.out); rintro e w17 ⟨rfl, hb⟩; replace B42 := Xbb B42 hb; replace B44 := Xbb B44 hb; replace B45 := Xbb B45 hb; replace HB := Xhb hb; clear hb))
  have H := HC10.out
  clear HC10
  by_cases c18 : t41 = true
  ·subst c18
   try rw [if_pos rfl] at H
   replace H := Option.bind_eq_some_iff.mp H
   obtain ⟨⟨t46, t47, t48, t49⟩, A190, H⟩ := H
   try dsimp only at H
   have A19 := Am A190
   clear A190
   simp only [Option.some.injEq, Prod.mk.injEq] at H
   obtain ⟨rfl, rfl, rfl, rfl⟩ := H
   have hnb20 := NB42_44.out
   have hnc20 := NB44_42.out
   have hnb21 := NB42_45.out
   have hnc21 := NB45_42.out
   obtain ⟨Z22_0, Z22_1, Z22_2⟩ := Xc3 B42
   obtain ⟨F22_0, F22_1, F22_2⟩ := Xf3 B42
   have hnb23 := NB44_45.out
   have hnc23 := NB45_44.out
   obtain ⟨Z24_0, Z24_1, Z24_2⟩ := Xc3 B44
   obtain ⟨F24_0, F24_1, F24_2⟩ := Xf3 B44
   go_wp2_with (first | ((with_reducible refine gate_callee (f := 97) rfl ?_); refine Xgo 17 Try.func97 #[.agg #[.int .i64 a0_0, .int .i64 a0_1, .slice A0_2 l0_2.length c0_2], .agg #[.int .i64 a1_0, .int .i64 a1_1, .slice A1_2 l1_2.length c1_2]] ?_; (with_reducible refine (impl_splice.calls k a0_0 a0_1 _ _ l0_2 a1_0 a1_1 _ _ l1_2 t46 t47 t48 t49 _ ?s1 ?s2 ?s3 ?s4 A19.out).mono ?_); (case s1 => exact Xc HR0_2); (case s2 => exact HC0_2.out); (case s3 => exact Xc HR1_2); (case s4 => exact HC1_2.out); rintro e w25 ⟨v430, rfl, ho0, hb⟩; refine ⟨_, rfl, ?_⟩; have HO50 := Am (Kd.S_lower ho0 (below_size Xi)); replace B42 := Xbb B42 hb; replace B44 := Xbb B44 hb; replace B45 := Xbb B45 hb; replace HB := Xhb hb; clear hb; (try clear ho0); obtain ⟨Z26_0, Z26_1, Z26_2⟩ := Xc3 B45; obtain ⟨F26_0, F26_1, F26_2⟩ := Xf3 B45; obtain ⟨Ao27, co27, eo27⟩ := Kd.S_slice HO50.out; subst eo27) | ((with_reducible refine gate_store (t := 29) (p := 4) rfl ?_); refine store_event (t := 29) (p := 4) (v := ?vo_w28) (w1 := (((w25.setCell ⟨gb45, 0, none⟩ (.int .i64 t46)).setCell ⟨gb45, 1, none⟩ (.int .i64 t47)).setCell ⟨gb45, 2, none⟩ (.slice Ao27 t48.length co27))) ?hg ?ho ?hn ?hr ?_; (case ho => rfl); (case hg => rfl); (case hn => rfl); (case hr => first | (go_simp; done) | (go_simp; rfl)); intro w28 hw; have n0_ : Aside0 (Kd.S k43 43 w28 w.heap.size (fun _ => True) (.slice Ao27 t48.length co27) t48) := ⟨(by rw [hw]; exact (by (with_reducible repeat (first | apply Kd.S_alloc | apply Kd.S_drewN | apply Kd.S_drew)); exact Kd.S_mono (Kd.S_far (p := ⟨gb45, 2, none⟩) (Kd.S_far (p := ⟨gb45, 1, none⟩) (Kd.S_far (p := ⟨gb45, 0, none⟩) (Kd.S_types HO50.out B45.out (by decide)) (fun _ hk => hk.2) (.int .i64 t46)) (fun _ hk => hk.2) (.int .i64 t47)) (fun _ hk => hk.2) (.slice Ao27 t48.length co27)) (fun _ hk => trivial)))⟩; have n1_ : Aside0 (w28.heap[gb42]? = some (.cells #[.int .i64 a0_0, .int .i64 a0_1, .slice A0_2 l0_2.length c0_2] 29 (0, 0))) := ⟨(by rw [hw]; exact (by refine Xu ?_; refine blk_far ?_ NB42_45.out _; refine Xu ?_; refine blk_far ?_ NB42_45.out _; refine Xu ?_; refine blk_far ?_ NB42_45.out _; refine Xu ?_; exact B42.out))⟩; have n2_ : Aside0 (w28.heap[gb44]? = some (.cells #[.int .i64 a1_0, .int .i64 a1_1, .slice A1_2 l1_2.length c1_2] 29 (0, 0))) := ⟨(by rw [hw]; exact (by refine Xu ?_; refine blk_far ?_ NB44_45.out _; refine Xu ?_; refine blk_far ?_ NB44_45.out _; refine Xu ?_; refine blk_far ?_ NB44_45.out _; refine Xu ?_; exact B44.out))⟩; have n3_ : Aside0 (w28.heap[gb45]? = some (.cells #[.int .i64 t46, .int .i64 t47, .slice Ao27 t48.length co27] 29 (0, 0))) := ⟨(by rw [hw]; exact (by refine Xu ?_; refine blk_put (cs := #[.int .i64 t46, .int .i64 t47, .slice none 0 0]) ?_ 2 _ rfl; refine Xu ?_; refine blk_put (cs := #[.int .i64 t46, .int .i64 0, .slice none 0 0]) ?_ 1 _ rfl; refine Xu ?_; refine blk_put (cs := #[.int .i64 0, .int .i64 0, .slice none 0 0]) ?_ 0 _ rfl; refine Xu ?_; exact B45.out))⟩; have n4_ : Aside0 (Below w.heap.size w w28) := ⟨(by rw [hw]; exact Xi)⟩; clear hw; clear HO50; clear B42; clear B44; clear B45; clear HB; have HO50 := n0_; have B42 := n1_; have B44 := n2_; have B45 := n3_; have HB := n4_; clear n0_ n1_ n2_ n3_ n4_))
   refine bodyPost_ret (results_ct rfl _ _ gb45 29 #[.int .i64 t46, .int .i64 t47, .slice Ao27 t48.length co27] (0, 0) _ rfl B45.out Try.underlying29 rfl (by kernel_rfl)) rfl ?_
   exact ⟨_, Xe, Xq HO50, Xi⟩
  replace c18 := Xbf c18
  subst c18
  try rw [if_neg Xft] at H
  simp only [Option.some.injEq, Prod.mk.injEq] at H
  obtain ⟨rfl, rfl, rfl, rfl⟩ := H
  have hnb29 := NB45_42.out
  have hnc29 := NB42_45.out
  have hnb30 := NB45_44.out
  have hnc30 := NB44_45.out
  obtain ⟨Z31_0, Z31_1, Z31_2⟩ := Xc3 B45
  obtain ⟨F31_0, F31_1, F31_2⟩ := Xf3 B45
  go_wp2_with (first | ((with_reducible refine gate_store (t := 29) (p := 4) rfl ?_); refine store_event (t := 29) (p := 4) (v := ?vo_w32) (w1 := (((w17.setCell ⟨gb45, 0, none⟩ (.int .i64 0)).setCell ⟨gb45, 1, none⟩ (.int .i64 0)).setCell ⟨gb45, 2, none⟩ (.slice none 0 0))) ?hg ?ho ?hn ?hr ?_; (case ho => rfl); (case hg => rfl); (case hn => rfl); (case hr => first | (go_simp; done) | (go_simp; rfl)); intro w32 hw; have n0_ : Aside0 (w32.heap[gb42]? = some (.cells #[.int .i64 a0_0, .int .i64 a0_1, .slice A0_2 l0_2.length c0_2] 29 (0, 0))) := ⟨(by rw [hw]; exact (by refine Xu ?_; refine blk_far ?_ NB42_45.out _; refine Xu ?_; refine blk_far ?_ NB42_45.out _; refine Xu ?_; refine blk_far ?_ NB42_45.out _; refine Xu ?_; exact B42.out))⟩; have n1_ : Aside0 (w32.heap[gb44]? = some (.cells #[.int .i64 a1_0, .int .i64 a1_1, .slice A1_2 l1_2.length c1_2] 29 (0, 0))) := ⟨(by rw [hw]; exact (by refine Xu ?_; refine blk_far ?_ NB44_45.out _; refine Xu ?_; refine blk_far ?_ NB44_45.out _; refine Xu ?_; refine blk_far ?_ NB44_45.out _; refine Xu ?_; exact B44.out))⟩; have n2_ : Aside0 (w32.heap[gb45]? = some (.cells #[.int .i64 0, .int .i64 0, .slice none 0 0] 29 (0, 0))) := ⟨(by rw [hw]; exact (by refine Xu ?_; refine blk_put (cs := #[.int .i64 0, .int .i64 0, .slice none 0 0]) ?_ 2 _ rfl; refine Xu ?_; refine blk_put (cs := #[.int .i64 0, .int .i64 0, .slice none 0 0]) ?_ 1 _ rfl; refine Xu ?_; refine blk_put (cs := #[.int .i64 0, .int .i64 0, .slice none 0 0]) ?_ 0 _ rfl; refine Xu ?_; exact B45.out))⟩; have n3_ : Aside0 (Below w.heap.size w w32) := ⟨(by rw [hw]; exact Xi)⟩; clear hw; clear B42; clear B44; clear B45; clear HB; have B42 := n0_; have B44 := n1_; have B45 := n2_; have HB := n3_; clear n0_ n1_ n2_ n3_))
  refine bodyPost_ret (results_ct rfl _ _ gb45 29 #[.int .i64 0, .int .i64 0, .slice none 0 0] (0, 0) _ rfl B45.out Try.underlying29 rfl (by kernel_rfl)) rfl ?_
  exact ⟨_, Xe, by first | exact Kd.S_nil _ _ _ _ _ | exact Kd.N_nil _ _ _ _ _ | exact Kd.V_nil _ _ _ _ _ | exact Kd.Q_nil _ _ _ _ _ | exact Kd.R_nil _ _ _ _ _, Xi⟩
 replace c8 := Xbf c8
 subst c8
 try rw [if_neg Xft] at H
 simp only [Option.some.injEq, Prod.mk.injEq] at H
 obtain ⟨rfl, rfl, rfl, rfl⟩ := H
 have hnb33 := NB42_44.out
 have hnc33 := NB44_42.out
 have hnb34 := NB42_45.out
 have hnc34 := NB45_42.out
 obtain ⟨Z35_0, Z35_1, Z35_2⟩ := Xc3 B42
 obtain ⟨F35_0, F35_1, F35_2⟩ := Xf3 B42
 go_wp2_with (first | ((with_reducible refine gate_callee (f := 24) rfl ?_); refine Xgo 7 Try.func24 #[.agg #[.int .i64 a0_0, .int .i64 a0_1, .slice A0_2 l0_2.length c0_2]] ?_; (with_reducible refine (impl_DocOK.calls k a0_0 a0_1 _ _ l0_2 false _ ?s1 ?s2 A7.out).mono ?_); (case s1 => exact Xc HR0_2); (case s2 => exact HC0_2.out); rintro e w36 ⟨rfl, hb⟩; refine ⟨_, rfl, ?_⟩; replace B42 := Xbb B42 hb; replace B44 := Xbb B44 hb; replace B45 := Xbb B45 hb; replace HB := Xhb hb; clear hb; have hnb37 := NB45_44.out; have hnc37 := NB44_45.out; obtain ⟨Z38_0, Z38_1, Z38_2⟩ := Xc3 B45; obtain ⟨F38_0, F38_1, F38_2⟩ := Xf3 B45) | ((with_reducible refine gate_store (t := 29) (p := 4) rfl ?_); refine store_event (t := 29) (p := 4) (v := ?vo_w39) (w1 := (((w36.setCell ⟨gb45, 0, none⟩ (.int .i64 0)).setCell ⟨gb45, 1, none⟩ (.int .i64 0)).setCell ⟨gb45, 2, none⟩ (.slice none 0 0))) ?hg ?ho ?hn ?hr ?_; (case ho => rfl); (case hg => rfl); (case hn => rfl); (case hr => first | (go_simp; done) | (go_simp; rfl)); intro w39 hw; have n0_ : Aside0 (w39.heap[gb42]? = some (.cells #[.int .i64 a0_0, .int .i64 a0_1, .slice A0_2 l0_2.length c0_2] 29 (0, 0))) := ⟨(by rw [hw]; exact (by refine Xu ?_; refine blk_far ?_ NB42_45.out _; refine Xu ?_; refine blk_far ?_ NB42_45.out _; refine Xu ?_; refine blk_far ?_ NB42_45.out _; refine Xu ?_; exact B42.out))⟩; have n1_ : Aside0 (w39.heap[gb44]? = some (.cells #[.int .i64 a1_0, .int .i64 a1_1, .slice A1_2 l1_2.length c1_2] 29 (0, 0))) := ⟨(by rw [hw]; exact (by refine Xu ?_; refine blk_far ?_ NB44_45.out _; refine Xu ?_; refine blk_far ?_ NB44_45.out _; refine Xu ?_; refine blk_far ?_ NB44_45.out _; refine Xu ?_; exact B44.out))⟩; have n2_ : Aside0 (w39.heap[gb45]? = some (.cells #[.int .i64 0, .int .i64 0, .slice none 0 0] 29 (0, 0))) := ⟨(by rw [hw]; exact (by refine Xu ?_; refine blk_put (cs := #[.int .i64 0, .int .i64 0, .slice none 0 0]) ?_ 2 _ rfl; refine Xu ?_; refine blk_put (cs := #[.int .i64 0, .int .i64 0, .slice none 0 0]) ?_ 1 _ rfl; refine Xu ?_; refine blk_put (cs := #[.int .i64 0, .int .i64 0, .slice none 0 0]) ?_ 0 _ rfl; refine Xu ?_; exact B45.out))⟩; have n3_ : Aside0 (Below w.heap.size w w39) := ⟨(by rw [hw]; exact Xi)⟩; clear hw; clear B42; clear B44; clear B45; clear HB; have B42 := n0_; have B44 := n1_; have B45 := n2_; have HB := n3_; clear n0_ n1_ n2_ n3_))
 refine bodyPost_ret (results_ct rfl _ _ gb45 29 #[.int .i64 0, .int .i64 0, .slice none 0 0] (0, 0) _ rfl B45.out Try.underlying29 rfl (by kernel_rfl)) rfl ?_
 exact ⟨_, Xe, by first | exact Kd.S_nil _ _ _ _ _ | exact Kd.N_nil _ _ _ _ _ | exact Kd.V_nil _ _ _ _ _ | exact Kd.Q_nil _ _ _ _ _ | exact Kd.R_nil _ _ _ _ _, Xi⟩
end Go.Proofs.Ytpdhccdmbdbdpaa.XA
