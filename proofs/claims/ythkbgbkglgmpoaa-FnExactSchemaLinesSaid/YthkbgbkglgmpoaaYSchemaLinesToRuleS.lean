/- The conversion of a row of rules, told so that the rules' terms, and the terms' kinds, lie apart. Conditions: the premises. -/
import Derived.Test.YthkbgbkglgmpoaaYSchemaLines4
import Derived.Test.YthkbgbkglgmpoaaMark3
import Derived.KernelRfl
namespace Go.Proofs.Ythkbgbkglgmpoaa.XA
set_option linter.unusedVariables false
set_option linter.unusedSimpArgs false
open Go.RowKit Go.Proofs.YthkbgbkglgmpoaaW.PrintWords Go.Proofs.YthkbgbkglgmpoaaW.PrintLast Go.Proofs.YthkbgbkglgmpoaaW.PrintMore Go.Proofs.Ythkbgbkglgmpoaa.XW
def kRS : Kd S97 := Kd.iso (Kd.pair Kd.string (Kd.pair Kd.bool (XR.sliceS 78 k78))) (fun x : S97 => (x.f0, x.f1, x.f2))
theorem kRS_openM {w : World} {base : Nat} {ok : Nat → Prop} {x : S97} {cs : List Value} (h : kRS.M w base ok x cs) : ∃ v2, cs = [.string x.f0, .bool x.f1, v2] ∧ Kd.S k78 78 w base ok v2 x.f2 := by
  obtain ⟨_, _, rfl, h0, ⟨_, _, rfl, h1, ⟨v2, rfl, g2⟩⟩⟩ := h
  cases h0
  cases h1
  exact ⟨v2, rfl, g2⟩
theorem kRS_mkM (w : World) (base : Nat) (ok : Nat → Prop) (x : S97) {v2 : Value} (g2 : Kd.S k78 78 w base ok v2 x.f2) : kRS.M w base ok x [.string x.f0, .bool x.f1, v2] := ⟨[.string x.f0], [.bool x.f1, v2], rfl, rfl, ⟨[.bool x.f1], [v2], rfl, rfl, ⟨v2, rfl, g2⟩⟩⟩
theorem kRS_C {w : World} {A : Option Addr} {n : Nat} {xs : List S97} (h : Kd.C kRS w A n xs) : Kd.C k97 w A n xs := h
theorem infoRS : (Try.prog.info? 97).map (fun i => (i.zero, i.size, i.bytes)) = some (some (.agg #[(.string ⟨#[]⟩), (.bool false), (.slice none 0 0)]), 3, 48) := by kernel_rfl
def laws_toRuleS.l0 : Nat → List (S93) → List (S97) → Int → Option ((List (S97)))
  | 0, _, _, _ => none
  | k + 1, x0, x3, x4 => if x4 < (x0.length : Int) then (if 0 ≤ x4 then ((laws_toRule.f k ((rd_T93 x0 x4).f0) ((rd_T93 x0 x4).f1) ((rd_T93 x0 x4).f2)).bind fun bt189 => (if x4 < (x3.length : Int) then (laws_toRuleS.l0 k x0 (x3.set (x4 : Int).toNat (⟨bt189.1, bt189.2.1, bt189.2.2⟩ : S97)) (wrap64 (x4 + 1))) else (none))) else (none)) else (some x3)
def laws_toRuleS.f (k : Nat) (l0 : List (S93)) : Option ((List (S97))) := if 0 ≤ (l0.length : Int) then (if ((l0.length : Int) : Int).toNat ≤ 5864062014805 then (laws_toRuleS.l0 k l0 (List.replicate ((l0.length : Int) : Int).toNat z97) 0) else (none)) else (none)
set_option maxHeartbeats 8000000 in
set_option maxRecDepth 100000 in
theorem laws_toRuleS.calls (k : Nat) (A0 : Option Addr) (c0 : Nat) (l0 : List (S93)) (r : List (S97)) (w : World) (hr0 : Kd.C k93 w A0 l0.length l0) (hc0 : l0.length ≤ c0) (h : laws_toRuleS.f k l0 = some r) :
    Calls Try.prog 26 #[.slice A0 l0.length c0] w fun e w' => ∃ v0_ : Value, e = .returned (v0_) ∧ Kd.S kRS 97 w' w.heap.size (fun _ => True) v0_ r ∧ Below w.heap.size w w' := by
  have hu76 := Try.underlying93
  have hu80 := Try.underlying97
  have HR0 := Aside0.mk hr0
  have HC0 := Aside0.mk hc0
  clear hr0 hc0
  have HB := Aside0.mk (Below.refl w.heap.size w)
  unfold laws_toRuleS.f at h
  rw [if_pos (Int.natCast_nonneg _)] at h
  obtain ⟨c3, H⟩ := Xif h
  clear h
  have b1 : decide (0 ≤ (l0.length : Int)) = true := decide_eq_true (Int.natCast_nonneg _)
  have b2 : decide (((l0.length : Int) : Int).toNat ≤ 5864062014805) = true := decide_eq_true c3
  clear c3
  have H' := Aside0.mk H
  clear H
  go_enter Try.func26, Try.ntmps26
  go_wp2_with (first | ((with_reducible refine gate_dst (N := 7) rfl ?_); refine Kd.S_make kRS _ 97 rfl (N := 7) rfl 51 _ _ rfl (l0.length : Int) rfl rfl Try.underlying51 (.agg #[(.string ⟨#[]⟩), (.bool false), (.slice none 0 0)]) 48 infoRS rfl (by decide) (by omega) z97 (ok := fun _ => True) (okp := fun _ => True) (kRS_mkM _ _ _ z97 (Kd.S_nil _ _ _ _ _)) (fun _ hk => hk) trivial (of_decide_eq_true Xa) (Nat.le_trans (Nat.mul_le_mul_right _ (of_decide_eq_true Xa : (l0.length : Int).toNat ≤ 5864062014805)) (by omega)) (Below.refl _ _) (Nat.le_refl _) ?_; intro v186 w4 ho5 hb hg_ hnew_; clear hg_ hnew_; have HO := Aside0.mk (Kd.S_lower ho5 (below_size Xi)); replace HB := Aside0.mk (below_step Xi hb); clear hb ho5))
  go_loopg [4] k (fun kq v4 w' => ∃ (x3_1 : List (S97)) (x4_1 : Int), v4 = .int .i64 x4_1 ∧ Aside0 (laws_toRuleS.l0 kq l0 x3_1 x4_1 = some r) ∧ Aside0 (kq ≤ k) ∧ Aside0 (Kd.S kRS 97 w' w.heap.size (fun _ => True) v186 x3_1) ∧ Aside0 (Below w.heap.size w w'))
  case atStart => exact ⟨_, 0, Xr, H', Xkr, (Xp' HO), ⟨Xi⟩⟩
  case round =>
    clear H' HO HB
    obtain ⟨x3_1, x4_1, rfl, HA, HK1, HO, HB⟩ := hrel
    cases gk with
    | zero => cases HA.out
    | succ k1 =>
      have H := HA.out
      clear HA
      simp only [laws_toRuleS.l0] at H
      obtain ⟨c6b0, H⟩ | ⟨c6b0, H⟩ := Xit H
      · obtain ⟨c7b0, H⟩ := Xid H
        replace H := Option.bind_eq_some_iff.mp H
        obtain ⟨⟨t189, t190, t191⟩, A80, H⟩ := H
        (try dsimp only at H)
        have A8 := Aside0.mk A80
        clear A80
        obtain ⟨c9b0, H⟩ := Xid H
        have H' := Aside0.mk H
        clear H
        obtain ⟨ad188, A188_2, c188_2, e188, p188, q188, hx188_0, hx188_1, hx188_2, HC188_2, HR188_2⟩ := at_B93 HR0 x4_1 Xa Xa HB
        cases e188
        obtain ⟨A3, c3, hv⟩ := Kd.S_slice HO.out
        subst hv
        go_wp2_with (first
          | ((with_reducible refine gate_callee (f := 67) rfl ?_); refine Xgo 20 Try.func67 #[.agg #[.string ((rd_T93 l0 x4_1).f0), .bool ((rd_T93 l0 x4_1).f1), .slice A188_2 ((rd_T93 l0 x4_1).f2).length c188_2]] ?_; (with_reducible refine (laws_toRule.calls k1 ((rd_T93 l0 x4_1).f0) ((rd_T93 l0 x4_1).f1) _ _ ((rd_T93 l0 x4_1).f2) t189 t190 t191 _ ?side1 ?side2 A8.out).mono ?_); (case side1 => exact Xc HR188_2); (case side2 => exact HC188_2.out); rintro e w11 ⟨v192, rfl, ho0, hb⟩; refine ⟨_, rfl, ?_⟩; have hp0 : 0 ≤ (x4_1 : Int) := of_decide_eq_true Xa; have hq0 : (x4_1 : Int) < ((x3_1.length : Nat) : Int) := of_decide_eq_true Xa; obtain ⟨g, eg, hg, ⟨ce, hcl, hcc⟩, hfr, hput⟩ := XR.S_fill (Xq HO) hb z97 hp0 hq0; subst eg; have HG := Aside0.mk hg; have HN := Aside0.mk (Kd.S_lower (XR.S_made ho0) (below_size Xi)); have HP := Aside0.mk (hput ⟨t189, t190, t191⟩ [.string t189, .bool t190, v192] rfl (kRS_mkM _ _ _ ⟨t189, t190, t191⟩ HN.out)); replace HB := Aside0.mk (below_step Xi hb); obtain ⟨ca, cb, cc, rfl⟩ : ∃ ca cb cc, ce = [ca, cb, cc] := (match ce, hcl with | [a_, b_, c_], _ => ⟨a_, b_, c_, rfl⟩); have hx0 : w11.cell? ⟨g, (x4_1 : Int).toNat * 3, none⟩ = some ca := hcc 0 _ rfl; have hx1 : w11.cell? ⟨g, (x4_1 : Int).toNat * 3 + 1, none⟩ = some cb := hcc 1 _ rfl; have hx2 : w11.cell? ⟨g, (x4_1 : Int).toNat * 3 + 2, none⟩ = some cc := hcc 2 _ rfl; have hf0 : w11.frozen? ⟨g, (x4_1 : Int).toNat * 3, none⟩ = false := hfr 0; have hf1 : w11.frozen? ⟨g, (x4_1 : Int).toNat * 3 + 1, none⟩ = false := hfr 1; have hf2 : w11.frozen? ⟨g, (x4_1 : Int).toNat * 3 + 2, none⟩ = false := hfr 2; obtain ⟨A9, c9, e9⟩ := Kd.S_slice HN.out; subst e9; replace hp0 := eq_true hp0; replace hq0 := eq_true hq0; clear hb ho0 hg hcc hfr hput HO hcl)
          | ((with_reducible refine gate_store (t := 97) (p := 21) rfl ?_); refine store_event (t := 97) (p := 21) (v := ?vo_w13) (w1 := (((w11.setCell ⟨g, (x4_1 : Int).toNat * 3, none⟩ (.string t189)).setCell ⟨g, (x4_1 : Int).toNat * 3 + 1, none⟩ (.bool t190)).setCell ⟨g, (x4_1 : Int).toNat * 3 + 2, none⟩ (.slice A9 t191.length c9))) ?hg ?ho ?hn ?hr ?_; (case ho => rfl); (case hg => rfl); (case hn => rfl); (case hr => first | (go_simp; done) | (go_simp; rfl)); intro w13 hw; replace HB := Aside0.mk ((by rw [hw]; exact below_set (below_set (below_set (HB.out) HG.out) HG.out) HG.out : Below w.heap.size w w13)); have HO := Aside0.mk (show Kd.S kRS 97 w13 w.heap.size (fun _ => True) (.slice (some ⟨g, 0, none⟩) x3_1.length c3) (x3_1.set (x4_1 : Int).toNat ⟨t189, t190, t191⟩) from by rw [hw]; exact HP.out); clear hw HP HN hx0 hx1 hx2 hf0 hf1 hf2))
        go_roundg k1
        case measure => have := HK1.out; omega
        case rel => exact ⟨_, (wrap64 (x4_1 + 1)), Xr, H', Xk1, (Xp' HO), ⟨Xi⟩⟩
      · obtain rfl := Option.some.inj H
        go_wp2
        go_ret
        exact ⟨_, Xe, Xq HO, Xi⟩
end Go.Proofs.Ythkbgbkglgmpoaa.XA
