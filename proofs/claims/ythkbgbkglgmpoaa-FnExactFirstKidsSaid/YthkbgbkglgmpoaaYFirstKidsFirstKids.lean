/- impl.firstKids by hand: the ways' row, what a way leads on to, and the seen states, in one invariant. Conditions: the premises. -/
import Derived.Test.YthkbgbkglgmpoaaYFirstKids0
import Derived.Test.YthkbgbkglgmpoaaYFirstKidsClone
import Derived.Test.YthkbgbkglgmpoaaMark
import Derived.Deep.DeepMust
namespace Go.Proofs.Ythkbgbkglgmpoaa.XA
set_option linter.unusedVariables false
set_option linter.unusedSimpArgs false
open Go.Lib Go.RowKit Go.Proofs.YthkbgbkglgmpoaaW.PrintWords Go.Proofs.YthkbgbkglgmpoaaW.PrintLast Go.Proofs.YthkbgbkglgmpoaaW.PrintMore
theorem infoWay : (Try.prog.info? 134).map (fun i => (i.zero, i.size, i.bytes)) = some (some (.agg #[(.int .i64 0), (.slice none 0 0)]), 2, 32) := by kernel_rfl
theorem infoW3 : (Try.prog.info? 3).map (fun i => (i.zero, i.size, i.bytes)) = some (some (.int .i64 0), 1, 8) := by kernel_rfl
theorem infoWb : (Try.prog.info? 4).map (fun i => (i.zero, i.size, i.bytes)) = some (some (.bool false), 1, 1) := by kernel_rfl
structure SWay where
  f0 : Int
  f1 : List Int
def zWay : SWay := ⟨(0 : Int), ([] : List Int)⟩
def kWay : Kd SWay := Kd.iso (Kd.pair (Kd.int .i64) (Kd.slice 3 (Kd.int .i64))) (fun x : SWay => (x.f0, x.f1))
theorem kWay_openM {w : World} {base : Nat} {ok : Nat → Prop} {x : SWay} {cs : List Value} (h : kWay.M w base ok x cs) : ∃ v1, cs = [.int .i64 x.f0, v1] ∧ (Kd.int .i64).R 3 w base ok v1 x.f1 := by
  obtain ⟨_, _, rfl, rfl, ⟨v1, rfl, g1⟩⟩ := h
  exact ⟨v1, rfl, g1⟩
theorem kWay_mkM (w : World) (base : Nat) (ok : Nat → Prop) (x : SWay) {v1 : Value} (g1 : (Kd.int .i64).R 3 w base ok v1 x.f1) : kWay.M w base ok x [.int .i64 x.f0, v1] := ⟨[.int .i64 x.f0], [v1], rfl, rfl, ⟨v1, rfl, g1⟩⟩
def rdWay (xs : List SWay) (i : Int) : SWay := xs.getD i.toNat zWay
mutual
def impl_firstKids.l0 : Nat → List (List Int) → List Bool → List SWay → List Bool → Int → Option (List Int × Bool)
  | 0, _, _, _, _, _ => none
  | k + 1, M0, M1, ws, sn, i => if i < (ws.length : Int) then (if 0 ≤ i then (if 0 ≤ (rdWay ws i).f0 then (if (rdWay ws i).f0 < (M1.length : Int) then (if rdOf false M1 (rdWay ws i).f0 = true then some ((rdWay ws i).f1, true) else (if (rdWay ws i).f0 < (M0.length : Int) then impl_firstKids.l1 k M0 M1 ws sn i (rdWay ws i).f0 (rdWay ws i).f1 0 else none)) else none) else none) else none) else some ([], false)
def impl_firstKids.l1 : Nat → List (List Int) → List Bool → List SWay → List Bool → Int → Int → List Int → Int → Option (List Int × Bool)
  | 0, _, _, _, _, _, _, _, _ => none
  | k + 1, M0, M1, ws, sn, i, st, ks, j => if j < ((rd_L1 M0 st).length : Int) then (if 0 ≤ j then (if rd (rd_L1 M0 st) j = -1 then impl_firstKids.l1 k M0 M1 ws sn i st ks (wrap64 (j + 1)) else (if 0 ≤ rd (rd_L1 M0 st) j then (if rd (rd_L1 M0 st) j < (sn.length : Int) then (if rdOf false sn (rd (rd_L1 M0 st) j) = true then impl_firstKids.l1 k M0 M1 ws sn i st ks (wrap64 (j + 1)) else (if ks.length < 1000000 then (if ws.length < 1000000 then impl_firstKids.l1 k M0 M1 (ws ++ [⟨rd (rd_L1 M0 st) j, ks ++ [wrap64 (j + 1)]⟩]) (sn.set (rd (rd_L1 M0 st) j).toNat true) i st ks (wrap64 (j + 1)) else none) else none)) else none) else none)) else none) else impl_firstKids.l0 k M0 M1 ws sn (wrap64 (i + 1))
end
def impl_firstKids.f (k : Nat) (M0 : List (List Int)) (M1 : List Bool) : Option (List Int × Bool) := if 0 < (M0.length : Int) then (if M0.length < 1000000 then impl_firstKids.l0 k M0 M1 [⟨0, []⟩] ((List.replicate M0.length false).set 0 true) 0 else none) else none
/-- What stands between the rounds. -/
structure FI (w0 w : World) (gb gs : Nat) (c0 c1 : Value) (cap : Nat) (v4 : Value) (ws : List SWay) (sn : List Bool) : Prop where
  below : Below w0.heap.size w0 w
  box : w.heap[gb]? = some (.cells #[c0, c1] 27 (0, 0))
  ways : kWay.R 134 w w0.heap.size (fun k => w0.heap.size ≤ k ∧ k ≠ gb ∧ k ≠ gs) v4 ws
  seen : Kd.bool.R 4 w w0.heap.size (fun k => k = gs) (.slice (some ⟨gs, 0, none⟩) sn.length cap) sn
  apart : gb ≠ gs
  old : w0.heap.size ≤ gs
theorem FI.over {w0 w w1 : World} {gb gs cap : Nat} {c0 c1 v4 : Value} {ws : List SWay} {sn : List Bool} (h : FI w0 w gb gs c0 c1 cap v4 ws sn) (hb : Below w.heap.size w w1) : FI w0 w1 gb gs c0 c1 cap v4 ws sn :=
  ⟨below_step h.below hb, blk_below h.box hb, Kd.R_below h.ways hb, Kd.R_below h.seen hb, h.apart, h.old⟩
/-- What stands inside a round: the way that is taken too. -/
structure FJ (w0 w : World) (gb gs g7 : Nat) (c0 c1 : Value) (cap : Nat) (st : Int) (vk : Value) (ks : List Int) (v4 : Value) (ws : List SWay) (sn : List Bool) : Prop where
  below : Below w0.heap.size w0 w
  box : w.heap[gb]? = some (.cells #[c0, c1] 27 (0, 0))
  box7 : w.heap[g7]? = some (.cells #[.int .i64 st, vk] 134 (0, 0))
  ways : kWay.R 134 w w0.heap.size (fun k => w0.heap.size ≤ k ∧ k ≠ gb ∧ k ≠ gs ∧ k ≠ g7) v4 ws
  now : (Kd.int .i64).R 3 w w0.heap.size (fun k => (w0.heap.size ≤ k ∧ k ≠ gb ∧ k ≠ gs ∧ k ≠ g7) ∧ some k ≠ v4.ownBlock) vk ks
  seen : Kd.bool.R 4 w w0.heap.size (fun k => k = gs) (.slice (some ⟨gs, 0, none⟩) sn.length cap) sn
  apart : gb ≠ gs
  apart7 : g7 ≠ gs
  apartb : g7 ≠ gb
  old : w0.heap.size ≤ gs
section
variable {w0 w w1 : World} {gb gs g7 cap : Nat} {c0 c1 v4 vk : Value} {st : Int} {ks : List Int} {ws : List SWay} {sn : List Bool}
theorem FJ.over (h : FJ w0 w gb gs g7 c0 c1 cap st vk ks v4 ws sn) (hb : Below w.heap.size w w1) : FJ w0 w1 gb gs g7 c0 c1 cap st vk ks v4 ws sn :=
  ⟨below_step h.below hb, blk_below h.box hb, blk_below h.box7 hb, Kd.R_below h.ways hb, Kd.R_below h.now hb, Kd.R_below h.seen hb, h.apart, h.apart7, h.apartb, h.old⟩
theorem FJ.back (h : FJ w0 w gb gs g7 c0 c1 cap st vk ks v4 ws sn) : FI w0 w gb gs c0 c1 cap v4 ws sn :=
  ⟨h.below, h.box, Kd.R_mono h.ways (fun _ hk => ⟨hk.1, hk.2.1, hk.2.2.1⟩), h.seen, h.apart, h.old⟩
theorem FJ.mark (h : FJ w0 w gb gs g7 c0 c1 cap st vk ks v4 ws sn) (i : Int) (hw : w1 = w.setCell ⟨gs, i.toNat, none⟩ (.bool true)) : FJ w0 w1 gb gs g7 c0 c1 cap st vk ks v4 ws (sn.set i.toNat true) := by
  subst hw
  refine ⟨below_set h.below h.old, blk_far h.box h.apart _, blk_far h.box7 h.apart7 _, Kd.R_far h.ways (fun k hk => hk.2.2.1) _, Kd.R_far h.now (fun k hk => hk.1.2.2.1) _, ?_, h.apart, h.apart7, h.apartb, h.old⟩
  rw [List.length_set]
  exact (Kd.R_putg h.seen i true).1
/-- What is new is none of these. -/
theorem FJ.news (h : FJ w0 w gb gs g7 c0 c1 cap st vk ks v4 ws sn) (k : Nat) (hk : w.heap.size ≤ k) : (w0.heap.size ≤ k ∧ k ≠ gb ∧ k ≠ gs ∧ k ≠ g7) ∧ some k ≠ v4.ownBlock := by
  have l1 := blk_lt h.box
  have l2 := blk_lt h.box7
  have l3 := Kd.R_lt h.seen gs (by simp [Value.ownBlock])
  have l4 := h.below.size
  refine ⟨⟨by omega, by omega, by omega, by omega⟩, fun e => ?_⟩
  have := Kd.R_lt h.ways k e.symm
  omega
/-- The ways with one more. -/
theorem FJ.more {v4' : Value} {ws' : List SWay} (h : FJ w0 w gb gs g7 c0 c1 cap st vk ks v4 ws sn)
    (ho : kWay.R 134 w1 w0.heap.size (fun k => w0.heap.size ≤ k ∧ k ≠ gb ∧ k ≠ gs ∧ k ≠ g7) v4' ws') (hb : Below w0.heap.size w0 w1) (hg : w.grownBy w1 v4.ownBlock) (hat : v4'.ownBlock = v4.ownBlock ∨ ∃ b, v4'.ownBlock = some b ∧ w.heap.size ≤ b) :
    FJ w0 w1 gb gs g7 c0 c1 cap st vk ks v4' ws' sn := by
  have hne : ∀ k, v4.ownBlock = some k → k ≠ gb ∧ k ≠ gs ∧ k ≠ g7 := fun k hk => (h.ways.1 k hk).2
  refine ⟨hb, blk_grown h.box hg (fun e => (hne gb e.symm).1 rfl), blk_grown h.box7 hg (fun e => (hne g7 e.symm).2.2 rfl), ho, Kd.R_after h.now hg hat, Kd.R_grown h.seen hg (fun k hk e => ?_), h.apart, h.apart7, h.apartb, h.old⟩
  subst hk
  exact (hne k e.symm).2.1 rfl
/-- A way is taken out of the row. -/
theorem FI.take (h : FI w0 w gb gs c0 c1 cap v4 ws sn) (hb : Below w.heap.size w w1) {g7 : Nat} (h7 : w.heap.size ≤ g7) (hx : w1.heap[g7]? = some (.cells #[.int .i64 st, vk] 134 (0, 0))) (hn : (Kd.int .i64).R 3 w w0.heap.size (fun k => (w0.heap.size ≤ k ∧ k ≠ gb ∧ k ≠ gs) ∧ some k ≠ v4.ownBlock) vk ks) :
    FJ w0 w1 gb gs g7 c0 c1 cap st vk ks v4 ws sn := by
  have l1 := blk_lt h.box
  have l2 := Kd.R_lt h.seen gs (by simp [Value.ownBlock])
  refine ⟨below_step h.below hb, blk_below h.box hb, hx, Kd.R_below (Kd.R_mono (Kd.R_elderB h.ways g7 h7) (fun k hk => ⟨hk.1.1, hk.1.2.1, hk.1.2.2, hk.2⟩)) hb, Kd.R_below (Kd.R_mono (Kd.R_elderB hn g7 h7) (fun k hk => ⟨⟨hk.1.1.1, hk.1.1.2.1, hk.1.1.2.2, hk.2⟩, hk.1.2⟩)) hb, Kd.R_below h.seen hb, h.apart, ?_, ?_, h.old⟩ <;> omega
end
set_option maxHeartbeats 8000000 in
set_option maxRecDepth 100000 in
theorem impl_firstKids.calls (k : Nat) (A0_0 : Option Addr) (c0_0 : Nat) (l0_0 : List (List Int)) (A0_1 : Option Addr) (c0_1 : Nat) (l0_1 : List Bool) (r1 : List Int) (r2 : Bool) (w : World) (hr0_0 : Kd.C (Kd.slice 3 (Kd.int .i64)) w A0_0 l0_0.length l0_0) (hc0_0 : l0_0.length ≤ c0_0) (hr0_1 : Kd.C Kd.bool w A0_1 l0_1.length l0_1) (hc0_1 : l0_1.length ≤ c0_1) (h : impl_firstKids.f k l0_0 l0_1 = some (r1, r2)) :
    Calls Try.prog 63 #[.agg #[.slice A0_0 l0_0.length c0_0, .slice A0_1 l0_1.length c0_1]] w fun e w' => ∃ v0_ : Value, e = .returned (.tuple #[v0_, .bool r2]) ∧ Kd.R (Kd.int .i64) 3 w' w.heap.size (fun _ => True) v0_ r1 ∧ Below w.heap.size w w' := by
  have HR0 := Aside0.mk hr0_0
  have HR1 := Aside0.mk hr0_1
  clear hr0_0 hr0_1 hc0_0 hc0_1
  unfold impl_firstKids.f at h
  obtain ⟨cz0, h1⟩ := XW.Xif h
  obtain ⟨cz1, h2⟩ := XW.Xif h1
  obtain ⟨ji, hji⟩ : ∃ j : Int, j = (l0_0.length : Int) := ⟨_, rfl⟩
  have Nji := Aside0.mk hji.symm
  have HB := Aside0.mk (Below.refl w.heap.size w)
  have H' := Aside0.mk h2
  have CZ := Aside0.mk (And.intro cz0 cz1)
  have q6 := eq_true cz0
  have qi6 := eq_true (show 0 < l0_0.length by omega)
  clear h h1 h2 hji cz0 cz1
  go_enter Try.func63, Try.ntmps63
  go_wp2_with (first
    | ((with_reducible refine gate_dst (N := 1) rfl ?_); refine XW.Xbox 1 #[.slice A0_0 l0_0.length c0_0, .slice A0_1 l0_1.length c0_1] 27 ?_; intro gb hgb w2 hbox hb; have BK := Aside0.mk hbox; have GB := Aside0.mk (show w.heap.size ≤ gb from Nat.le_of_eq hgb.symm); replace HB := Aside0.mk (below_step HB.out hb); have hcz := XW.Xc2 BK; obtain ⟨hcz0, hcz1⟩ := hcz; clear hb hbox hgb)
    | ((with_reducible refine gate_dst (N := 11) rfl ?_); go_must (refine Kd.R_lit kWay _ 134 ?hg (N := 11) ?hd (xs := ([⟨0, []⟩] : List SWay)) (inner := [.int .i64 0, .slice none 0 0]) (ok := fun _ => True) (okp := fun _ => True) ?hr ?hp (fun _ hk => hk) trivial (Below.refl _ _) (Nat.le_refl _) (by simp) ?_; (case hd => rfl); (case hg => rfl); (case hr => first | (go_simp; done) | (go_simp; rfl)); (case hp => exact (Reps.c2 (show Kd.M kWay _ _ _ (⟨0, []⟩ : SWay) [.int .i64 0, .slice none 0 0] from (kWay_mkM _ _ _ (⟨0, []⟩ : SWay) (Kd.R_nil _ _ _ _ _))) (Reps.none _ _))); intro v4 w3 ho hb hg_ hnew_; have W3 := Aside0.mk (below_step HB.out hb); have WY := Aside0.mk (Kd.R_lower (Kd.R_mono (Kd.R_bound ho) (ok' := fun k => w.heap.size ≤ k ∧ k ≠ gb ∧ k < w3.heap.size) (fun k hk => ⟨Nat.le_trans (below_size HB.out) hk.2.1, (by have h1 := hk.2.1; have h2 := blk_lt BK.out; omega), hk.2.2.1⟩)) (below_size HB.out)); replace BK := XW.Xbb BK hb; replace HB := Aside0.mk (below_step HB.out hb); clear hcz0 hcz1; obtain ⟨hcz0, hcz1⟩ := XW.Xc2 BK; clear hb ho hg_ hnew_))
    | ((with_reducible refine gate_dst (N := 15) rfl ?_); go_must (refine Kd.R_make Kd.bool _ 4 rfl (N := 15) rfl 25 _ _ rfl (l0_0.length : Int) rfl rfl Try.underlying25 (.bool false) 1 infoWb rfl (by decide) (by omega) false (ok := fun _ => True) (okp := fun _ => True) rfl (fun _ hk => hk) trivial (by omega) (by have := CZ.out.2; rw [Int.toNat_natCast]; omega) (Below.refl _ _) (Nat.le_refl _) ?_; intro v5 w9 ho hb hg_ hnew_; clear hg_ hnew_; rw [Int.toNat_natCast] at ho; obtain ⟨gs, cap, e5, hs1, hs2, hs3⟩ := Kd.R_form ho (by have := CZ.out.1; rw [List.length_replicate]; omega); subst e5; have AP := Aside0.mk (show gb ≠ gs by have := blk_lt BK.out; omega); have GS := Aside0.mk (show w.heap.size ≤ gs from Nat.le_trans (below_size HB.out) hs1); replace WY := Aside0.mk (Kd.R_below (Kd.R_mono WY.out (ok' := fun k => w.heap.size ≤ k ∧ k ≠ gb ∧ k ≠ gs) (fun k hk => ⟨hk.1, hk.2.1, by have := hk.2.2; omega⟩)) hb); replace BK := XW.Xbb BK hb; replace HB := Aside0.mk (below_step HB.out hb); rw [List.length_replicate] at ho; have HS := Aside0.mk (Kd.R_mono (ok' := fun k => k = gs) (Kd.R_reok rfl (ok := fun k => k = gs) ho (fun k hk => by simpa [Value.ownBlock, eq_comm] using hk)) (fun _ hk => hk)); obtain ⟨hy, hz⟩ := Kd.R_celln false HS.out (0 : Int) (by omega) (by have := CZ.out.1; omega); rw [show ((0 : Int)).toNat = 0 from rfl] at hy hz; clear ho hb hs1 hs2 hs3))
    | ((with_reducible refine gate_store (t := 4) (p := 17) rfl ?_); go_must (refine XR.Xst 4 17 ⟨gs, 0, none⟩ (.bool true) ?_; intro wa hw; have HF := Aside0.mk (show FI w wa gb gs (.slice A0_0 l0_0.length c0_0) (.slice A0_1 l0_1.length c0_1) cap v4 [⟨0, []⟩] ((List.replicate l0_0.length false).set 0 true) from by (subst hw; exact ⟨below_set HB.out GS.out, blk_far BK.out AP.out _, Kd.R_far WY.out (fun k hk => hk.2.2) _, (by rw [List.length_set, List.length_replicate]; exact Kd.R_lower (Kd.R_putg HS.out (0 : Int) true).1 (below_size W3.out)), AP.out, GS.out⟩)); clear hw BK HB WY HS AP hy hz hcz0 hcz1)))
  go_loopg [4, 6] k (fun kq v4 v6 w' => ∃ (ws : List SWay) (sn : List Bool) (i : Int), v6 = .int .i64 i ∧ Aside0 (impl_firstKids.l0 kq l0_0 l0_1 ws sn i = some (r1, r2)) ∧ Aside0 (kq ≤ k) ∧ Aside0 (sn.length = l0_0.length) ∧ Aside0 (FI w w' gb gs (.slice A0_0 l0_0.length c0_0) (.slice A0_1 l0_1.length c0_1) cap v4 ws sn))
  case atStart => exact ⟨[⟨0, []⟩], _, 0, rfl, H', ⟨Nat.le_refl _⟩, ⟨by rw [List.length_set, List.length_replicate]⟩, HF⟩
  case round =>
    clear H' HF
    obtain ⟨ws, sn, i, rfl, HA, HK1, HL, HF⟩ := hrel
    cases gk with
    | zero => cases HA.out
    | succ k1 =>
      have H := HA.out
      clear HA
      simp only [impl_firstKids.l0] at H
      obtain ⟨A4, c4, e4⟩ := Kd.R_slice HF.out.ways
      subst e4
      obtain ⟨cb, H1⟩ | ⟨cb, H1⟩ := XW.Xit H
      · clear H
        obtain ⟨d1, H2⟩ := XW.Xif H1
        obtain ⟨d2, H3⟩ := XW.Xif H2
        obtain ⟨d3, H4⟩ := XW.Xif H3
        clear H1 H2 H3
        have cb' : i < (ws.length : Int) := of_decide_eq_true cb
        obtain ⟨g4, cap4, e4, hb4, _, _⟩ := Kd.R_form HF.out.ways (by omega)
        injection e4 with e4 _ e4'
        subst e4 e4'
        obtain ⟨ce, hce, hM, hcc, _⟩ := Kd.R_elem HF.out.ways zWay i d1 cb'
        obtain ⟨v1, rfl, hR⟩ := kWay_openM hM
        obtain ⟨A7, c7, e7⟩ := Kd.R_slice hR
        subst e7
        have hx0 := hcc 0 _ rfl
        have hx1 := hcc 1 _ rfl
        rw [show (kWay).sz = 2 from rfl] at hx0 hx1
        rw [Nat.add_zero] at hx0
        have HR7 := Aside0.mk (show (Kd.int .i64).R 3 _ w.heap.size (fun k => (w.heap.size ≤ k ∧ k ≠ gb ∧ k ≠ gs) ∧ some k ≠ (Value.slice (some ⟨g4, 0, none⟩) ws.length c4).ownBlock) (.slice A7 (rdWay ws i).f1.length c7) (rdWay ws i).f1 from Kd.R_mono hR (fun k hk => ⟨hk.1, fun e => hk.2 (by simpa [Value.ownBlock] using e)⟩))
        obtain ⟨st, hst⟩ : ∃ st, st = (rdWay ws i).f0 := ⟨_, rfl⟩
        obtain ⟨ks, hks⟩ : ∃ ks, ks = (rdWay ws i).f1 := ⟨_, rfl⟩
        have hx0' : wr.cell? ⟨g4, i.toNat * 2, none⟩ = some (.int .i64 st) := by rw [hst]; exact hx0
        have hx1' : wr.cell? ⟨g4, i.toNat * 2 + 1, none⟩ = some (.slice A7 ks.length c7) := by rw [hks]; exact hx1
        rw [← hst] at d2 d3 H4
        rw [← hks] at H4 HR7
        clear hcc hce hM hR hx0 hx1 hst hks
        obtain ⟨adb, eb, hxw⟩ := Kd.at_bool HR1.out st d2 d3
        cases eb
        obtain ⟨bq, hbq⟩ : ∃ b, b = rdOf false l0_1 st := ⟨_, rfl⟩
        rw [← hbq] at hxw H4
        have HXW := Aside0.mk hxw
        have hxb := XW.Xm ⟨HF.out.below⟩ hxw
        have HX0 := Aside0.mk hx0'
        have HX1 := Aside0.mk hx1'
        have hcz := XW.Xc2 ⟨HF.out.box⟩
        obtain ⟨hcz0, hcz1⟩ := hcz
        have p1 := eq_true d1
        have p2 := eq_true cb'
        have p3 := eq_true d2
        have p4 := eq_true d3
        have H4' := Aside0.mk H4
        have B7 := Aside0.mk True.intro
        clear H4 hxw d1 cb' d2 hbq
        go_upto_if 33 with (first
          | ((with_reducible refine gate_dst (N := 7) rfl ?_); go_must (refine XW.Xbox 7 #[.int .i64 0, .slice none 0 0] 134 ?_; intro g7 hg7 w7 hbox hb; clear B7; have B7 := Aside0.mk hbox; have L7 := Aside0.mk (show wr.heap.size ≤ g7 from Nat.le_of_eq hg7.symm); have HB7 := Aside0.mk hb; obtain ⟨hy0, hy1⟩ := XW.Xc2 B7; obtain ⟨hz0, hz1⟩ := XW.Xf2 B7; clear hbox hb hg7 hxb hcz0 hcz1 hx0' hx1'))
          | ((with_reducible refine gate_store (t := 134) (p := 7) rfl ?_); go_must (refine store_event (t := 134) (p := 7) (v := ?vo_f7) (w1 := (w7.setCell ⟨g7, 0, none⟩ (.int .i64 st)).setCell ⟨g7, 1, none⟩ (.slice A7 ks.length c7)) ?hg ?ho ?hn ?hr ?_; (case ho => rfl); (case hg => rfl); (case hn => rfl); (case hr => first | (go_simp; done) | (go_simp; rfl)); intro wj hw; have HJ := Aside0.mk (show FJ w wj gb gs g7 (.slice A0_0 l0_0.length c0_0) (.slice (some adb) l0_1.length c0_1) cap st (.slice A7 ks.length c7) ks _ ws sn from FI.take HF.out (by rw [hw]; exact below_set (below_set HB7.out L7.out) L7.out) L7.out (by rw [hw]; exact blk_put (blk_put B7.out 0 _ rfl) 1 _ rfl) HR7.out); have hxb := XW.Xm ⟨HJ.out.below⟩ HXW.out; obtain ⟨hcz0, hcz1⟩ := XW.Xc2 ⟨HJ.out.box⟩; obtain ⟨hcy0, hcy1⟩ := XW.Xc2 ⟨HJ.out.box7⟩; clear hw hy0 hy1 hz0 hz1 B7 HB7)))
        have H4 := H4'.out
        clear H4' HX0 HX1 HF HR7
        by_cases hq : bq = true
        · subst hq
          rw [if_pos rfl] at H4
          simp only [Option.some.injEq, Prod.mk.injEq] at H4
          obtain ⟨rfl, rfl⟩ := H4
          go_wp2
          go_ret2
          exact ⟨_, rfl, Kd.R_mono HJ.out.now (fun _ _ => trivial), HJ.out.below⟩
        · replace hq := Bool.eq_false_iff.mpr hq
          subst hq
          rw [if_neg (by decide)] at H4
          obtain ⟨d5, H5⟩ := XW.Xif H4
          clear H4
          obtain ⟨ad0, A3, c3, e3, hr0, hrl, hri⟩ := at_L1 HR0.out st (of_eq_true p3) d5
          cases e3
          have hr0' := XW.Xm ⟨HJ.out.below⟩ hr0
          have HRI := Aside0.mk hri
          have p5 := eq_true d5
          have H' := Aside0.mk H5
          clear H5 hri hr0 hrl
          go_wp2
          go_loopg [4, 43] k1 (fun kq v4 v43 w' => ∃ (ws : List SWay) (sn : List Bool) (j : Int), v43 = .int .i64 j ∧ Aside0 (impl_firstKids.l1 kq l0_0 l0_1 ws sn i st ks j = some (r1, r2)) ∧ Aside0 (kq ≤ k1) ∧ Aside0 (sn.length = l0_0.length) ∧ Aside0 (FJ w w' gb gs g7 (.slice (some ad0) l0_0.length c0_0) (.slice (some adb) l0_1.length c0_1) cap st (.slice A7 ks.length c7) ks v4 ws sn))
          case atStart => exact ⟨ws, sn, 0, rfl, H', ⟨Nat.le_refl _⟩, HL, HJ⟩
          case round =>
            clear H' HJ HL hxb hcz0 hcz1 hcy0 hcy1 hr0'
            obtain ⟨ws, sn, j, rfl, HA, HK2, HL, HJ⟩ := hrel
            cases gk with
            | zero => cases HA.out
            | succ k2 =>
              have H := HA.out
              clear HA
              simp only [impl_firstKids.l1] at H
              obtain ⟨A4, c4, e4⟩ := Kd.R_slice HJ.out.ways
              subst e4
              obtain ⟨hcy0, hcy1⟩ := XW.Xc2 ⟨HJ.out.box7⟩
              obtain ⟨cj, H1⟩ | ⟨cj, H1⟩ := XW.Xit H
              · clear H
                obtain ⟨e1, H2⟩ := XW.Xif H1
                clear H1
                have cj' : j < ((rd_L1 l0_0 st).length : Int) := of_decide_eq_true cj
                obtain ⟨ad3, e3, hj0⟩ := Kd.at_int HRI.out j e1 cj'
                cases e3
                have HJ0 := Aside0.mk hj0
                have hj := XW.Xm ⟨HJ.out.below⟩ hj0
                obtain ⟨tz, hto⟩ : ∃ t, t = rd (rd_L1 l0_0 st) j := ⟨_, rfl⟩
                rw [← hto] at hj H2
                have p6 := eq_true e1
                have p7 := eq_true cj'
                clear hj0 HJ0 hto
                obtain ⟨q1, H3⟩ | ⟨q1, H3⟩ := XW.Xiu H2
                · have nb : (tz != -1) = false := bne_eq_false_iff_eq.mpr q1
                  have H' := Aside0.mk H3
                  clear H2 H3
                  go_wp2
                  go_roundg k2
                  case measure => have := HK1.out; have := HK2.out; omega
                  case rel => exact ⟨ws, sn, wrap64 (j + 1), by first | rfl | (simp; done), H', ⟨by have := HK1.out; have := HK2.out; omega⟩, HL, HJ⟩
                · have nb : (tz != -1) = true := bne_iff_ne.mpr q1
                  clear H2
                  obtain ⟨q2, H4⟩ := XW.Xif H3
                  obtain ⟨q3, H5⟩ := XW.Xif H4
                  clear H3 H4
                  obtain ⟨hs0, hs1⟩ := Kd.R_celln false HJ.out.seen tz q2 q3
                  have p8 := eq_true q2
                  have p9 : (tz < (l0_0.length : Int)) = True := eq_true (by have := HL.out; omega)
                  obtain ⟨bs, hbs⟩ : ∃ b, b = rdOf false sn tz := ⟨_, rfl⟩
                  rw [← hbs] at hs0 H5
                  clear hbs q2 q3
                  by_cases hq : bs = true
                  · subst hq
                    rw [if_pos rfl] at H5
                    have H' := Aside0.mk H5
                    clear H5
                    go_wp2
                    go_roundg k2
                    case measure => have := HK1.out; have := HK2.out; omega
                    case rel => exact ⟨ws, sn, wrap64 (j + 1), by first | rfl | (simp; done), H', ⟨by have := HK1.out; have := HK2.out; omega⟩, HL, HJ⟩
                  · replace hq := Bool.eq_false_iff.mpr hq
                    subst hq
                    rw [if_neg (by decide)] at H5
                    obtain ⟨g1, H6⟩ := XW.Xif H5
                    obtain ⟨g2, H7⟩ := XW.Xif H6
                    have GL := Aside0.mk (And.intro g1 g2)
                    obtain ⟨ky, hky⟩ : ∃ y, y = ks ++ [wrap64 (j + 1)] := ⟨_, rfl⟩
                    rw [← hky] at H7
                    have Nky := Aside0.mk hky
                    clear hky
                    have H' := Aside0.mk H7
                    have W4 := Aside0.mk True.intro
                    clear H5 H6 H7 g1 g2
                    go_wp2_with (first
                      | ((with_reducible refine gate_store (t := 4) (p := 59) rfl ?_); go_must (refine XR.Xst 4 59 ⟨gs, tz.toNat, none⟩ (.bool true) ?_; intro wa hw; replace HJ := Aside0.mk (FJ.mark HJ.out tz hw); clear hw hs0 hs1 hj hcy0 hcy1; obtain ⟨hcy0, hcy1⟩ := XW.Xc2 ⟨HJ.out.box7⟩))
                      | ((with_reducible refine gate_callee (f := 112) rfl ?_); go_must (refine XW.Xgo 64 Try.func112 #[.slice A7 ks.length c7] ?_; (with_reducible refine (slices_Clone_int.calls A7 c7 ks ks _ ?side1 ?side2 ?side3).mono ?_); (case side1 => exact (Kd.R_reads' HJ.out.now).2.2); (case side2 => exact (Kd.R_reads' HJ.out.now).2.1); (case side3 => unfold slices_Clone_int.f; rw [if_pos (by have := GL.out; omega)]); rintro e wb ⟨v64, rfl, ho, hb⟩; refine ⟨_, rfl, ?_⟩; have HO := Aside0.mk ho; clear W4; have W4 := Aside0.mk hb; clear ho hb hcy0 hcy1))
                      | ((with_reducible refine gate_builtin (b := .append) (xs := #[.tmp 64, .tmp 67]) rfl ?_); at_builtin; go_must (refine Kd.R_append (Kd.int .i64) (w0 := wa) wa.heap.size rfl (.tmp 64) (.tmp 67) 39 3 (.int .i64 0) 8 rfl Try.underlying39 infoW3 rfl (by decide) (by omega) v64 ks (wrap64 (j + 1)) [.int .i64 (wrap64 (j + 1))] (fun _ => True) (fun _ => False) rfl rfl ?aP (fun _ hk => hk.elim) ?aF ?aO ?aB ?aS ?aL ?_; (case aP => exact rfl); (case aB => exact W4.out); (case aF => exact (fun _ _ => trivial)); (case aO => exact HO.out); (case aS => exact W4.out.size); (case aL => have := GL.out; omega); intro v68 wc ho hb hg hat; rw [← Nky.out] at ho; obtain ⟨A8, c8, e8⟩ := Kd.R_slice ho; subst e8; replace HO := Aside0.mk ho; replace W4 := Aside0.mk hb; clear ho hb hg hat))
                      | ((with_reducible refine gate_builtin (b := .append) (xs := #[.tmp 60, .tmp 70]) rfl ?_); at_builtin; go_must (refine Kd.R_append kWay (w0 := w) w.heap.size rfl (.tmp 60) (.tmp 70) 135 134 (.agg #[(.int .i64 0), (.slice none 0 0)]) 32 rfl Try.underlying135 infoWay rfl (by decide) (by omega) (.slice A4 ws.length c4) ws (⟨tz, ky⟩ : SWay) [.int .i64 tz, .slice A8 ky.length c8] (fun k => w.heap.size ≤ k ∧ k ≠ gb ∧ k ≠ gs ∧ k ≠ g7) (fun k => wa.heap.size ≤ k) rfl rfl ?aP ?aQ ?aF ?aO ?aB ?aS ?aL ?_; (case aP => exact (kWay_mkM _ _ _ (⟨tz, ky⟩ : SWay) (Kd.R_lower (Kd.R_mono (Kd.R_bound HO.out) (fun k hk => hk.2.1)) HJ.out.below.size))); (case aB => exact below_step HJ.out.below W4.out); (case aQ => exact FJ.news HJ.out); (case aF => exact (fun k hk => (FJ.news HJ.out k (Nat.le_trans W4.out.size hk)).1)); (case aO => exact Kd.R_below HJ.out.ways W4.out); (case aS => exact Nat.le_trans HJ.out.below.size W4.out.size); (case aL => have := GL.out; omega); intro v71 wd ho hb hg hat; replace HJ := Aside0.mk (FJ.more (FJ.over HJ.out W4.out) ho hb hg hat); clear ho hb hg hat W4 HO)))
                    go_roundg k2
                    case measure => have := HK1.out; have := HK2.out; omega
                    case rel => exact ⟨_, _, wrap64 (j + 1), by first | rfl | (simp; done), H', ⟨by have := HK1.out; have := HK2.out; omega⟩, ⟨by rw [List.length_set]; exact HL.out⟩, HJ⟩
              · have H' := Aside0.mk H1
                clear H H1
                go_wp2
                go_roundg k2
                case measure => have := HK1.out; have := HK2.out; omega
                case rel => exact ⟨ws, sn, wrap64 (i + 1), by first | rfl | (simp; done), H', ⟨by have := HK1.out; have := HK2.out; omega⟩, HL, ⟨HJ.out.back⟩⟩
      · simp only [Option.some.injEq, Prod.mk.injEq] at H1
        obtain ⟨rfl, rfl⟩ := H1
        clear H
        go_wp2
        go_ret2
        exact ⟨_, rfl, Kd.R_nil _ _ _ _ _, HF.out.below⟩
end Go.Proofs.Ythkbgbkglgmpoaa.XA
