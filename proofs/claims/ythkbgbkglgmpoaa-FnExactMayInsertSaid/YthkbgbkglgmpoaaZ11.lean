/- Words and contracts of this claim, put together out of several texts by a program of this session's. Conditions: each theorem's own premises. -/
import Derived.Test.YthkbgbkglgmpoaaZ1
import Derived.Test.YthkbgbkglgmpoaaZ10
import Derived.KernelRfl
import Derived.Test.YthkbgbkglgmpoaaZ7
import Derived.Test.YthkbgbkglgmpoaaZ3
import Derived.Test.YthkbgbkglgmpoaaZ9
section
namespace Go.Proofs.Ythkbgbkglgmpoaa.XA
set_option linter.unusedVariables false
set_option linter.unusedSimpArgs false
open Go.RowKit Go.Proofs.YthkbgbkglgmpoaaW.PrintWords Go.Proofs.YthkbgbkglgmpoaaW.PrintLast Go.Proofs.YthkbgbkglgmpoaaW.PrintMore Go.Proofs.Ythkbgbkglgmpoaa.XW
def kRS : Kd S97 := Kd.iso (Kd.pair Kd.string (Kd.pair Kd.bool (XR.sliceS 78 k78))) (fun x : S97 => (x.f0, x.f1, x.f2))
theorem kRS_openM {w : World} {base : Nat} {ok : Nat → Prop} {x : S97} {cs : List Value} (h : kRS.M w base ok x cs) : ∃ v2, cs = [.string x.f0, .bool x.f1, v2] ∧ Kd.S k78 78 w base ok v2 x.f2 := by
  obtain ⟨_, _, rfl, h0, ⟨_, _, rfl, h1, ⟨v2, rfl, g2⟩⟩⟩ := h
  cases h0
  cases h1
  exact ⟨v2, rfl, g2⟩
theorem kRS_mkM (w : World) (base : Nat) (ok : Nat → Prop) (x : S97) {v2 : Value} (g2 : Kd.S k78 78 w base ok v2 x.f2) : kRS.M w base ok x [.string x.f0, .bool x.f1, v2] := ⟨[.string x.f0], [.bool x.f1, v2], rfl, rfl, ⟨[.bool x.f1], [v2], rfl, rfl, ⟨v2, rfl, g2⟩⟩⟩
theorem kRS_C {w : World} {A : Option Addr} {n : Nat} {xs : List S97} (h : Kd.C kRS w A n xs) : Kd.C k97 w A n xs := h
theorem infoRS : (Try.prog.info? 97).map (fun i => (i.zero, i.size, i.bytes)) = some (some (.agg #[(.string ⟨#[]⟩), (.bool false), (.slice none 0 0)]), 3, 48) := by kernel_rfl
def laws_toRuleS.l0 : Nat → List (S93) → List (S97) → Int → Option ((List (S97)))
  | 0, _, _, _ => none
  | k + 1, x0, x3, x4 => if x4 < (x0.length : Int) then (if 0 ≤ x4 then ((laws_toRule.f k ((rd_T93 x0 x4).f0) ((rd_T93 x0 x4).f1) ((rd_T93 x0 x4).f2)).bind fun bt189 => (if x4 < (x3.length : Int) then (laws_toRuleS.l0 k x0 (x3.set (x4 : Int).toNat (⟨bt189.1, bt189.2.1, bt189.2.2⟩ : S97)) (wrap64 (x4 + 1))) else (none))) else (none)) else (some x3)
def laws_toRuleS.f (k : Nat) (l0 : List (S93)) : Option ((List (S97))) := if 0 ≤ (l0.length : Int) then (if ((l0.length : Int) : Int).toNat ≤ 5864062014805 then (laws_toRuleS.l0 k l0 (List.replicate ((l0.length : Int) : Int).toNat z97) 0) else (none)) else (none)
set_option maxHeartbeats 8000000 in
set_option maxRecDepth 100000 in
theorem laws_toRuleS.calls (k : Nat) (A0 : Option Addr) (c0 : Nat) (l0 : List (S93)) (r : List (S97)) (w : World) (hr0 : Kd.C k93 w A0 l0.length l0) (hc0 : l0.length ≤ c0) (h : laws_toRuleS.f k l0 = some r) :
    Calls Try.prog 26 #[.slice A0 l0.length c0] w fun e w' => ∃ v0_ : Value, e = .returned (v0_) ∧ Kd.S kRS 97 w' w.heap.size (fun _ => True) v0_ r ∧ Below w.heap.size w w' := by
  have hu76 := Try.underlying93
  have hu80 := Try.underlying97
  have HR0 := Aside0.mk hr0
  have HC0 := Aside0.mk hc0
  clear hr0 hc0
  have HB := Aside0.mk (Below.refl w.heap.size w)
  unfold laws_toRuleS.f at h
  rw [if_pos (Int.natCast_nonneg _)] at h
  obtain ⟨c3, H⟩ := Xif h
  clear h
  have b1 : decide (0 ≤ (l0.length : Int)) = true := decide_eq_true (Int.natCast_nonneg _)
  have b2 : decide (((l0.length : Int) : Int).toNat ≤ 5864062014805) = true := decide_eq_true c3
  clear c3
  have H' := Aside0.mk H
  clear H
  go_enter Try.func26, Try.ntmps26
  go_wp2_with (first | ((with_reducible refine gate_dst (N := 7) rfl ?_); refine Kd.S_make kRS _ 97 rfl (N := 7) rfl 51 _ _ rfl (l0.length : Int) rfl rfl Try.underlying51 (.agg #[(.string ⟨#[]⟩), (.bool false), (.slice none 0 0)]) 48 infoRS rfl (by decide) (by omega) z97 (ok := fun _ => True) (okp := fun _ => True) (kRS_mkM _ _ _ z97 (Kd.S_nil _ _ _ _ _)) (fun _ hk => hk) trivial (of_decide_eq_true Xa) (Nat.le_trans (Nat.mul_le_mul_right _ (of_decide_eq_true Xa : (l0.length : Int).toNat ≤ 5864062014805)) (by omega)) (Below.refl _ _) (Nat.le_refl _) ?_; intro v186 w4 ho5 hb hg_ hnew_; clear hg_ hnew_; have HO := Aside0.mk (Kd.S_lower ho5 (below_size Xi)); replace HB := Aside0.mk (below_step Xi hb); clear hb ho5))
  go_loopg [4] k (fun kq v4 w' => ∃ (x3_1 : List (S97)) (x4_1 : Int), v4 = .int .i64 x4_1 ∧ Aside0 (laws_toRuleS.l0 kq l0 x3_1 x4_1 = some r) ∧ Aside0 (kq ≤ k) ∧ Aside0 (Kd.S kRS 97 w' w.heap.size (fun _ => True) v186 x3_1) ∧ Aside0 (Below w.heap.size w w'))
  case atStart => exact ⟨_, 0, Xr, H', Xkr, (Xp' HO), ⟨Xi⟩⟩
  case round =>
    clear H' HO HB
    obtain ⟨x3_1, x4_1, rfl, HA, HK1, HO, HB⟩ := hrel
    cases gk with
    | zero => cases HA.out
    | succ k1 =>
      have H := HA.out
      clear HA
      simp only [laws_toRuleS.l0] at H
      obtain ⟨c6b0, H⟩ | ⟨c6b0, H⟩ := Xit H
      · obtain ⟨c7b0, H⟩ := Xid H
        replace H := Option.bind_eq_some_iff.mp H
        obtain ⟨⟨t189, t190, t191⟩, A80, H⟩ := H
        (try dsimp only at H)
        have A8 := Aside0.mk A80
        clear A80
        obtain ⟨c9b0, H⟩ := Xid H
        have H' := Aside0.mk H
        clear H
        obtain ⟨ad188, A188_2, c188_2, e188, p188, q188, hx188_0, hx188_1, hx188_2, HC188_2, HR188_2⟩ := at_B93 HR0 x4_1 Xa Xa HB
        cases e188
        obtain ⟨A3, c3, hv⟩ := Kd.S_slice HO.out
        subst hv
        go_wp2_with (first
          | ((with_reducible refine gate_callee (f := 67) rfl ?_); refine Xgo 20 Try.func67 #[.agg #[.string ((rd_T93 l0 x4_1).f0), .bool ((rd_T93 l0 x4_1).f1), .slice A188_2 ((rd_T93 l0 x4_1).f2).length c188_2]] ?_; (with_reducible refine (laws_toRule.calls k1 ((rd_T93 l0 x4_1).f0) ((rd_T93 l0 x4_1).f1) _ _ ((rd_T93 l0 x4_1).f2) t189 t190 t191 _ ?side1 ?side2 A8.out).mono ?_); (case side1 => exact Xc HR188_2); (case side2 => exact HC188_2.out); rintro e w11 ⟨v192, rfl, ho0, hb⟩; refine ⟨_, rfl, ?_⟩; have hp0 : 0 ≤ (x4_1 : Int) := of_decide_eq_true Xa; have hq0 : (x4_1 : Int) < ((x3_1.length : Nat) : Int) := of_decide_eq_true Xa; obtain ⟨g, eg, hg, ⟨ce, hcl, hcc⟩, hfr, hput⟩ := XR.S_fill (Xq HO) hb z97 hp0 hq0; subst eg; have HG := Aside0.mk hg; have HN := Aside0.mk (Kd.S_lower (XR.S_made ho0) (below_size Xi)); have HP := Aside0.mk (hput ⟨t189, t190, t191⟩ [.string t189, .bool t190, v192] rfl (kRS_mkM _ _ _ ⟨t189, t190, t191⟩ HN.out)); replace HB := Aside0.mk (below_step Xi hb); obtain ⟨ca, cb, cc, rfl⟩ : ∃ ca cb cc, ce = [ca, cb, cc] := (match ce, hcl with | [a_, b_, c_], _ => ⟨a_, b_, c_, rfl⟩); have hx0 : w11.cell? ⟨g, (x4_1 : Int).toNat * 3, none⟩ = some ca := hcc 0 _ rfl; have hx1 : w11.cell? ⟨g, (x4_1 : Int).toNat * 3 + 1, none⟩ = some cb := hcc 1 _ rfl; have hx2 : w11.cell? ⟨g, (x4_1 : Int).toNat * 3 + 2, none⟩ = some cc := hcc 2 _ rfl; have hf0 : w11.frozen? ⟨g, (x4_1 : Int).toNat * 3, none⟩ = false := hfr 0; have hf1 : w11.frozen? ⟨g, (x4_1 : Int).toNat * 3 + 1, none⟩ = false := hfr 1; have hf2 : w11.frozen? ⟨g, (x4_1 : Int).toNat * 3 + 2, none⟩ = false := hfr 2; obtain ⟨A9, c9, e9⟩ := Kd.S_slice HN.out; subst e9; replace hp0 := eq_true hp0; replace hq0 := eq_true hq0; clear hb ho0 hg hcc hfr hput HO hcl)
          | ((with_reducible refine gate_store (t := 97) (p := 21) rfl ?_); refine store_event (t := 97) (p := 21) (v := ?vo_w13) (w1 := (((w11.setCell ⟨g, (x4_1 : Int).toNat * 3, none⟩ (.string t189)).setCell ⟨g, (x4_1 : Int).toNat * 3 + 1, none⟩ (.bool t190)).setCell ⟨g, (x4_1 : Int).toNat * 3 + 2, none⟩ (.slice A9 t191.length c9))) ?hg ?ho ?hn ?hr ?_; (case ho => rfl); (case hg => rfl); (case hn => rfl); (case hr => first | (go_simp; done) | (go_simp; rfl)); intro w13 hw; replace HB := Aside0.mk ((by rw [hw]; exact below_set (below_set (below_set (HB.out) HG.out) HG.out) HG.out : Below w.heap.size w w13)); have HO := Aside0.mk (show Kd.S kRS 97 w13 w.heap.size (fun _ => True) (.slice (some ⟨g, 0, none⟩) x3_1.length c3) (x3_1.set (x4_1 : Int).toNat ⟨t189, t190, t191⟩) from by rw [hw]; exact HP.out); clear hw HP HN hx0 hx1 hx2 hf0 hf1 hf2))
        go_roundg k1
        case measure => have := HK1.out; omega
        case rel => exact ⟨_, (wrap64 (x4_1 + 1)), Xr, H', Xk1, (Xp' HO), ⟨Xi⟩⟩
      · obtain rfl := Option.some.inj H
        go_wp2
        go_ret
        exact ⟨_, Xe, Xq HO, Xi⟩
end Go.Proofs.Ythkbgbkglgmpoaa.XA
end
section
namespace Go.Proofs.Ythkbgbkglgmpoaa.XA
set_option linter.unusedVariables false
open Go.RowKit Go.Proofs.YthkbgbkglgmpoaaW.PrintWords Go.Proofs.YthkbgbkglgmpoaaW.PrintLast Go.Proofs.YthkbgbkglgmpoaaW.PrintMore
def laws_markTermS.l0 : Nat → List S78 → Int → Int → Option (Int × List S78)
  | 0, _, _, _ => none
  | k + 1, xs_, n_, i_ => if i_ < (xs_.length : Int) then (if 0 ≤ i_ then ((laws_markIntS.f k (rd_T78 xs_ i_).f0 n_).bind fun p_ => laws_markTermS.l0 k (xs_.set i_.toNat ⟨p_.2, p_.1⟩) (wrap64 (p_.1 + 1)) (wrap64 (i_ + 1))) else none) else some (n_, xs_)
def laws_markTermS.f (k : Nat) (l0 : List S78) (a1 : Int) : Option (Int × List S78) := laws_markTermS.l0 k l0 a1 0
theorem MS_two {α : Type} {d : Kd α} {e : Nat} {ws w0 w : World} {g n cap : Nat} {P oki : Nat → Prop} {xs : List α} {i : Int} {v4 : Value} {ks : List Int} {a b : Value} (m : XR.MS d e ws w0 w P oki g n cap xs i [a, b] v4 ks) (h5 : d.sz = 2) :
    (w.cell? ⟨g, i.toNat * 2, none⟩ = some a ∧ w.cell? ⟨g, i.toNat * 2 + 1, none⟩ = some b) ∧ (w.frozen? ⟨g, i.toNat * 2, none⟩ = false ∧ w.frozen? ⟨g, i.toNat * 2 + 1, none⟩ = false) := by
  have hc := m.cell
  have hf := m.thaw
  rw [h5] at hc hf
  exact ⟨⟨hc 0 rfl, hc 1 rfl⟩, hf 0, hf 1⟩
set_option maxHeartbeats 8000000 in
set_option maxRecDepth 100000 in
theorem laws_markTermS.calls (k : Nat) (P_ : Nat → Prop) (u_ : Value) (l0 : List S78) (a1 r1 : Int) (r2 : List S78) (w0 w : World) (hB : Below w0.heap.size w0 w) (ho : Kd.S k78 78 w w0.heap.size P_ u_ l0) (h : laws_markTermS.f k l0 a1 = some (r1, r2)) :
    Calls Try.prog 14 #[u_, .int .i64 a1] w fun e w' => e = .returned (.int .i64 r1) ∧ Kd.S k78 78 w' w0.heap.size P_ u_ r2 ∧ Below w0.heap.size w0 w' ∧ Kept w w' P_ := by
  have huN := Try.underlying78
  obtain ⟨A, c0, rfl⟩ := Kd.S_slice ho
  obtain ⟨N, hN⟩ : ∃ N, N = l0.length := ⟨_, rfl⟩
  rw [← hN] at ho ⊢
  have HN := Aside0.mk hN.symm
  have HS := Aside0.mk ho
  have HB := Aside0.mk hB
  have HK := Aside0.mk (Kept.refl w P_)
  have H' := Aside0.mk (show laws_markTermS.l0 k l0 a1 0 = some (r1, r2) from h)
  clear ho hB h hN
  go_enter Try.func14, Try.ntmps14
  go_wp2
  go_loopg [1, 5] k (fun kq v1 v5 w' => ∃ (n_ i_ : Int) (xs_ : List S78), v1 = .int .i64 n_ ∧ v5 = .int .i64 i_ ∧ Aside0 (laws_markTermS.l0 kq xs_ n_ i_ = some (r1, r2)) ∧ Aside0 (kq ≤ k) ∧ Aside0 (xs_.length = N) ∧ Aside0 (Kd.S k78 78 w' w0.heap.size P_ (.slice A N c0) xs_) ∧ Aside0 (Below w0.heap.size w0 w') ∧ Aside0 (Kept w w' P_))
  case atStart => exact ⟨a1, 0, l0, by first | rfl | (simp; done), by first | rfl | (simp; done), H', ⟨Nat.le_refl _⟩, HN, HS, HB, HK⟩
  case round =>
    clear H' HS HB HK HN
    obtain ⟨n_, i_, xs_, rfl, rfl, HA, HK1, HL, HS, HB, HK⟩ := hrel
    cases gk with
    | zero => cases HA.out
    | succ k1 =>
      have H := HA.out
      clear HA
      simp only [laws_markTermS.l0] at H
      obtain ⟨c1, H⟩ | ⟨c1, H⟩ := XW.Xiu H
      · obtain ⟨c2, H⟩ := XW.Xif H
        obtain ⟨⟨n2, ks'⟩, HI, H⟩ := XW.Xbi H
        (try dsimp only at H)
        have H' := Aside0.mk H
        clear H
        have hL := HL.out
        have hp : 0 < xs_.length := by omega
        obtain ⟨g, cap, e_, hg, _, _⟩ := Kd.S_form HS.out hp
        injection e_ with e1 e2 e3
        subst e1 e3
        clear e2
        have c1' : i_ < (N : Int) := by omega
        obtain ⟨oki, ce, hcl, hM, _, _, hoki, hH⟩ := Kd.S_elem HS.out z78 i_ c2 c1'
        obtain ⟨v4, rfl, hr⟩ := k78_openM hM
        replace hr : (Kd.int .i64).R 3 _ w0.heap.size oki v4 (rd_T78 xs_ i_).f0 := hr
        obtain ⟨A4, c4, rfl⟩ := Kd.R_slice hr
        have M0 := Aside0.mk (show XR.MS k78 78 w w0 _ P_ oki g N c0 xs_ i_ [(.slice A4 (rd_T78 xs_ i_).f0.length c4), .int .i64 (rd_T78 xs_ i_).f1] (.slice A4 (rd_T78 xs_ i_).f0.length c4) (rd_T78 xs_ i_).f0 from ⟨hH, hr, fun k hk => (hoki k hk).2, (Kd.S_R HS.out).1 g (by simp [Value.ownBlock]), hcl, c2, c1', HK.out, HB.out, hg⟩)
        have b0 : decide (i_ < (N : Int)) = true := decide_eq_true c1'
        have b1 : decide (0 ≤ i_) = true := decide_eq_true c2
        have b2 : decide (i_ < 0) = false := decide_eq_false (by omega)
        have p1 := eq_true c2
        have p2 := eq_true c1'
        clear c1 hp hcl hM hoki hH hr HS HB HK hL hg c1' c2
        obtain ⟨⟨hx0, hx1⟩, hf0, hf1⟩ := MS_two M0.out rfl
        go_wp2_with (first
          | ((with_reducible refine gate_callee (f := 22) rfl ?_); refine XW.Xgo 18 Try.func22 #[.slice A4 (rd_T78 xs_ i_).f0.length c4, .int .i64 n_] ?_; (with_reducible refine (laws_markIntS.calls k1 (fun k_ => oki k_) _ (rd_T78 xs_ i_).f0 n_ n2 ks' w0 _ M0.out.below M0.out.r HI.out).mono ?_); rintro e wf ⟨rfl, hr, hb, hk⟩; refine ⟨_, rfl, ?_⟩; have M1 := Aside0.mk (M0.out.kids hr hb hk); clear hr hb hk hx0 hx1 hf0 hf1 M0; obtain ⟨⟨hx0, hx1⟩, hf0, hf1⟩ := MS_two M1.out rfl)
          | ((with_reducible refine gate_store (t := 3) (p := 23) rfl ?_); refine XR.Xst 3 23 ⟨g, i_.toNat * 2 + 1, none⟩ (.int .i64 n2) ?_; intro wa hw; have M2 := Aside0.mk (M1.out.put 1 (by decide) (.int .i64 n2) rfl (off := i_.toNat * 2 + 1) rfl hw); clear hw hx0 hx1 hf0 hf1 M1))
        go_roundg k1
        case measure => have := HK1.out; omega
        case rel => exact ⟨wrap64 (n2 + 1), wrap64 (i_ + 1), _, by first | rfl | (simp; done) | (simp [*]; done), by first | rfl | (simp; done) | (simp [*]; done), H', ⟨by have := HK1.out; omega⟩, ⟨by rw [List.length_set]; exact HL.out⟩, ⟨Kd.H_back M2.out.h (k78_mkM _ _ _ ⟨ks', n2⟩ M2.out.r) (fun _ hk => hk)⟩, ⟨M2.out.below⟩, ⟨M2.out.kept⟩⟩
      · simp only [Option.some.injEq, Prod.mk.injEq] at H
        obtain ⟨rfl, rfl⟩ := H
        have hL := HL.out
        have b0 : decide (i_ < (N : Int)) = false := decide_eq_false (by omega)
        clear hL c1
        go_wp2
        go_ret
        exact ⟨by first | rfl | (simp; done) | (simp [*]; done), HS.out, HB.out, HK.out⟩
end Go.Proofs.Ythkbgbkglgmpoaa.XA
end
section
namespace Go.Proofs.Ythkbgbkglgmpoaa.XA
set_option linter.unusedVariables false
open Go.RowKit Go.Proofs.YthkbgbkglgmpoaaW.PrintWords Go.Proofs.YthkbgbkglgmpoaaW.PrintLast Go.Proofs.YthkbgbkglgmpoaaW.PrintMore
def laws_markRuleS.l0 : Nat → List S97 → Int → Int → Option (Int × List S97)
  | 0, _, _, _ => none
  | k + 1, xs_, n_, i_ => if i_ < (xs_.length : Int) then (if 0 ≤ i_ then ((laws_markText.f k n_).bind fun t_ => ((laws_markTermS.f k (rd_T97 xs_ i_).f2 (wrap64 ((wrap64 (n_ + 1)) + 1))).bind fun p_ => laws_markRuleS.l0 k (xs_.set i_.toNat ⟨t_, Int.tmod (wrap64 (n_ + 1)) 3 == 0, p_.2⟩) p_.1 (wrap64 (i_ + 1)))) else none) else some (n_, xs_)
def laws_markRuleS.f (k : Nat) (l0 : List S97) (a1 : Int) : Option (Int × List S97) := laws_markRuleS.l0 k l0 a1 0
set_option maxHeartbeats 8000000 in
set_option maxRecDepth 100000 in
theorem laws_markRuleS.calls (k : Nat) (P_ : Nat → Prop) (u_ : Value) (l0 : List S97) (a1 r1 : Int) (r2 : List S97) (w0 w : World) (hB : Below w0.heap.size w0 w) (ho : Kd.S kRS 97 w w0.heap.size P_ u_ l0) (h : laws_markRuleS.f k l0 a1 = some (r1, r2)) :
    Calls Try.prog 30 #[u_, .int .i64 a1] w fun e w' => e = .returned (.int .i64 r1) ∧ Kd.S kRS 97 w' w0.heap.size P_ u_ r2 ∧ Below w0.heap.size w0 w' ∧ Kept w w' P_ := by
  have huN := Try.underlying97
  obtain ⟨A, c0, rfl⟩ := Kd.S_slice ho
  obtain ⟨N, hN⟩ : ∃ N, N = l0.length := ⟨_, rfl⟩
  rw [← hN] at ho ⊢
  have HN := Aside0.mk hN.symm
  have HS := Aside0.mk ho
  have HB := Aside0.mk hB
  have HK := Aside0.mk (Kept.refl w P_)
  have H' := Aside0.mk (show laws_markRuleS.l0 k l0 a1 0 = some (r1, r2) from h)
  clear ho hB h hN
  go_enter Try.func30, Try.ntmps30
  go_wp2
  go_loopg [1, 5] k (fun kq v1 v5 w' => ∃ (n_ i_ : Int) (xs_ : List S97), v1 = .int .i64 n_ ∧ v5 = .int .i64 i_ ∧ Aside0 (laws_markRuleS.l0 kq xs_ n_ i_ = some (r1, r2)) ∧ Aside0 (kq ≤ k) ∧ Aside0 (xs_.length = N) ∧ Aside0 (Kd.S kRS 97 w' w0.heap.size P_ (.slice A N c0) xs_) ∧ Aside0 (Below w0.heap.size w0 w') ∧ Aside0 (Kept w w' P_))
  case atStart => exact ⟨a1, 0, l0, by first | rfl | (simp; done), by first | rfl | (simp; done), H', ⟨Nat.le_refl _⟩, HN, HS, HB, HK⟩
  case round =>
    clear H' HS HB HK HN
    obtain ⟨n_, i_, xs_, rfl, rfl, HA, HK1, HL, HS, HB, HK⟩ := hrel
    cases gk with
    | zero => cases HA.out
    | succ k1 =>
      have H := HA.out
      clear HA
      simp only [laws_markRuleS.l0] at H
      obtain ⟨c1, H⟩ | ⟨c1, H⟩ := XW.Xiu H
      · obtain ⟨c2, H⟩ := XW.Xif H
        obtain ⟨t_, HT, H⟩ := XW.Xbi H
        (try dsimp only at H)
        obtain ⟨⟨n2, ts'⟩, HI, H⟩ := XW.Xbi H
        (try dsimp only at H)
        have H' := Aside0.mk H
        clear H
        have hL := HL.out
        have hp : 0 < xs_.length := by omega
        obtain ⟨g, cap, e_, hg, _, _⟩ := Kd.S_form HS.out hp
        injection e_ with e1 e2 e3
        subst e1 e3
        clear e2
        have c1' : i_ < (N : Int) := by omega
        obtain ⟨oki, ce, hcl, hM, _, _, hoki, hH⟩ := Kd.S_elem HS.out z97 i_ c2 c1'
        obtain ⟨v4, rfl, hr⟩ := kRS_openM hM
        replace hr : Kd.S k78 78 _ w0.heap.size oki v4 (rd_T97 xs_ i_).f2 := hr
        obtain ⟨A4, c4, rfl⟩ := Kd.S_slice hr
        have M0 := Aside0.mk (show XR.MT kRS 97 k78 78 w w0 _ P_ oki g N c0 xs_ i_ [.string (rd_T97 xs_ i_).f0, .bool (rd_T97 xs_ i_).f1, (.slice A4 (rd_T97 xs_ i_).f2.length c4)] (.slice A4 (rd_T97 xs_ i_).f2.length c4) (rd_T97 xs_ i_).f2 from ⟨hH, hr, fun k hk => (hoki k hk).2, (Kd.S_R HS.out).1 g (by simp [Value.ownBlock]), hcl, c2, c1', HK.out, HB.out, hg⟩)
        have b0 : decide (i_ < (N : Int)) = true := decide_eq_true c1'
        have b1 : decide (0 ≤ i_) = true := decide_eq_true c2
        have b2 : decide (i_ < 0) = false := decide_eq_false (by omega)
        have p1 := eq_true c2
        have p2 := eq_true c1'
        clear c1 hp hcl hM hoki hH hr HS HB HK hL hg c1' c2
        obtain ⟨⟨hx0, hx1, hx2⟩, hf0, hf1, hf2⟩ := M0.out.three rfl
        go_wp2_with (first
          | ((with_reducible refine gate_callee (f := 72) rfl ?_); refine XW.Xgo 15 Try.func72 #[.int .i64 n_] ?_; (with_reducible refine (laws_markText.calls k1 n_ t_ _ HT.out).mono ?_); rintro e wd ⟨rfl, hb⟩; refine ⟨_, rfl, ?_⟩; have M1 := Aside0.mk (M0.out.over hb); clear hb hx0 hx1 hx2 hf0 hf1 hf2 M0; obtain ⟨⟨hx0, hx1, hx2⟩, hf0, hf1, hf2⟩ := M1.out.three rfl)
          | ((with_reducible refine gate_store (t := 9) (p := 17) rfl ?_); refine XR.Xst 9 17 ⟨g, i_.toNat * 3, none⟩ (.string t_) ?_; intro we hw; have M2 := Aside0.mk (M1.out.put 0 (by decide) (.string t_) rfl (off := i_.toNat * 3) rfl hw); clear hw hx0 hx1 hx2 hf0 hf1 hf2 M1; obtain ⟨⟨hx0, hx1, hx2⟩, hf0, hf1, hf2⟩ := M2.out.three rfl)
          | ((with_reducible refine gate_store (t := 4) (p := 26) rfl ?_); refine XR.Xst 4 26 ⟨g, i_.toNat * 3 + 1, none⟩ (.bool (Int.tmod (wrap64 (n_ + 1)) 3 == 0)) ?_; intro wf hw; have M3 := Aside0.mk (M2.out.put 1 (by decide) (.bool (Int.tmod (wrap64 (n_ + 1)) 3 == 0)) rfl (off := i_.toNat * 3 + 1) rfl hw); clear hw hx0 hx1 hx2 hf0 hf1 hf2 M2; obtain ⟨⟨hx0, hx1, hx2⟩, hf0, hf1, hf2⟩ := M3.out.three rfl)
          | ((with_reducible refine gate_callee (f := 14) rfl ?_); refine XW.Xgo 35 Try.func14 #[.slice A4 (rd_T97 xs_ i_).f2.length c4, .int .i64 (wrap64 ((wrap64 (n_ + 1)) + 1))] ?_; (with_reducible refine (laws_markTermS.calls k1 (fun k_ => oki k_) _ (rd_T97 xs_ i_).f2 (wrap64 ((wrap64 (n_ + 1)) + 1)) n2 ts' w0 _ M3.out.below M3.out.r HI.out).mono ?_); rintro e wg ⟨rfl, hr, hb, hk⟩; refine ⟨_, rfl, ?_⟩; have M4 := Aside0.mk (M3.out.kids hr hb hk); clear hr hb hk hx0 hx1 hx2 hf0 hf1 hf2 M3))
        go_roundg k1
        case measure => have := HK1.out; omega
        case rel => exact ⟨n2, wrap64 (i_ + 1), _, by first | rfl | (simp; done) | (simp [*]; done), by first | rfl | (simp; done) | (simp [*]; done), H', ⟨by have := HK1.out; omega⟩, ⟨by rw [List.length_set]; exact HL.out⟩, ⟨Kd.H_back M4.out.h (kRS_mkM _ _ _ ⟨t_, Int.tmod (wrap64 (n_ + 1)) 3 == 0, ts'⟩ M4.out.r) (fun _ hk => hk)⟩, ⟨M4.out.below⟩, ⟨M4.out.kept⟩⟩
      · simp only [Option.some.injEq, Prod.mk.injEq] at H
        obtain ⟨rfl, rfl⟩ := H
        have hL := HL.out
        have b0 : decide (i_ < (N : Int)) = false := decide_eq_false (by omega)
        clear hL c1
        go_wp2
        go_ret
        exact ⟨by first | rfl | (simp; done) | (simp [*]; done), HS.out, HB.out, HK.out⟩
end Go.Proofs.Ythkbgbkglgmpoaa.XA
end
section
namespace Go.Proofs.Ythkbgbkglgmpoaa.XA
open Go.RowKit Go.Proofs.YthkbgbkglgmpoaaW.PrintWords Go.Proofs.YthkbgbkglgmpoaaW.PrintLast Go.Proofs.YthkbgbkglgmpoaaW.PrintMore
set_option linter.unusedVariables false
set_option linter.unusedSimpArgs false
def laws_FnExactMayInsert.P (k : Nat) (a1_0 : Int) (a1_1 : Int) (l1_2 : List (S142)) (l0 : List (S93)) (a2 : Int) : Prop := ∃ v0 : Int, laws_szRuleS.f k l0 1048576 = some v0 ∧ (v0 < 0 ∨ 0 ≤ v0 ∧ ∃ v1 : Int, laws_szDoc.f k a1_0 a1_1 l1_2 v0 = some v1 ∧ (v1 < 0 ∨ 0 ≤ v1 ∧ ∃ (x0 : List (S97)) (x1 : Int) (x2 : Int) (x3 : List (S103)) (r0 : List Int) (r1 : Int) (n0 : Int) (n1 : List S97) (n2 : Int) (n3 : List S103) (n4 : Int) (n5 : List Int), laws_toRuleS.f k l0 = some x0 ∧ laws_toDoc.f k a1_0 a1_1 l1_2 = some (x1, x2, x3) ∧ spec_MayInsert.f k x0 x1 x2 x3 a2 = some (r0, r1) ∧ impl_MayInsert.f k x0 x1 x2 x3 a2 = some (r0, r1) ∧ laws_eqIntS.f k r0 r0 = some true ∧ laws_eqRuleS.f k x0 x0 = some true ∧ laws_eqDoc.f k x1 x2 x3 x1 x2 x3 = some true ∧ laws_markRuleS.f k x0 1 = some (n0, n1) ∧ laws_markDoc.f k x1 x2 x3 n0 = some (n2, n3) ∧ laws_markIntS.f k r0 1 = some (n4, n5) ∧ laws_heldIntS.f k n5 1 = some n4 ∧ 0 ≤ n0 ∧ 0 ≤ n2 ∧ 0 ≤ n4))
set_option maxHeartbeats 8000000 in
set_option maxRecDepth 100000 in
theorem laws_FnExactMayInsert.calls (k : Nat) (a1_0 : Int) (a1_1 : Int) (A1_2 : Option Addr) (c1_2 : Nat) (l1_2 : List (S142)) (A0 : Option Addr) (c0 : Nat) (l0 : List (S93)) (a2 : Int) (r : Bool) (w : World) (hr_ : r = true) (hr1_2 : Kd.C k142 w A1_2 l1_2.length l1_2) (hc1_2 : l1_2.length ≤ c1_2) (hr0 : Kd.C k93 w A0 l0.length l0) (hc0 : l0.length ≤ c0) (h : laws_FnExactMayInsert.P k a1_0 a1_1 l1_2 l0 a2) :
    Calls Try.prog 6 #[.slice A0 l0.length c0, .agg #[.int .i64 a1_0, .int .i64 a1_1, .slice A1_2 l1_2.length c1_2], .int .i64 a2] w fun e w' => e = .returned (.bool r) ∧ Below w.heap.size w w' := by
  subst hr_
  unfold laws_FnExactMayInsert.P at h
  have HB := Aside0.mk (Below.refl w.heap.size w)
  obtain ⟨z0, hz0⟩ : ∃ z_, z_ = w.heap.size := ⟨_, rfl⟩
  have HZ := Aside0.mk (Nat.le_of_eq hz0)
  have HZ0 := Aside0.mk (Nat.le_of_eq hz0.symm)
  clear hz0
  have HC1_2 := Aside0.mk hr1_2
  clear hr1_2
  have HC0 := Aside0.mk hr0
  clear hr0
  obtain ⟨v0, he_, h⟩ := h
  have HE0 := Aside0.mk he_
  clear he_
  rcases h with hv0 | ⟨hv0, h⟩
  · skip
    go_enter Try.func6, Try.ntmps6
    go_wp2_with (first
      | ((with_reducible refine gate_dst (N := 4) rfl ?_); refine XW.Xbox 4 #[.int .i64 a1_0, .int .i64 a1_1, .slice A1_2 l1_2.length c1_2] 60 ?_; intro g4 hg w1 hbox hb; obtain ⟨z1, hz1⟩ : ∃ z_, z_ = w1.heap.size := ⟨_, rfl⟩; have Oz1 := Aside0.mk (show z0 ≤ z1 from by have h1_ := HZ.out; have h2_ := hb.size; omega); have HG4 := Aside0.mk (show z0 ≤ g4 ∧ g4 < z1 from by have h1_ := HZ.out; have h2_ := blk_lt hbox; omega); have BK4 := Aside0.mk hbox; replace HB := Aside0.mk (below_step HB.out hb); replace HZ := Aside0.mk (Nat.le_of_eq hz1); clear hb hbox hg hz1; obtain ⟨hx4_0, hx4_1, hx4_2⟩ := XW.Xc3 BK4)
      | ((with_reducible refine gate_callee (f := 24) rfl ?_); refine XW.Xgo 21 Try.func24 #[.slice A0 l0.length c0, .int .i64 1048576] ?_; (with_reducible refine (laws_szRuleS.calls k A0 c0 l0 1048576 v0 _ (XW.Xc HC0) hc0 HE0.out).mono ?_); rintro e w2 ⟨rfl, hb⟩; refine ⟨_, rfl, ?_⟩; replace BK4 := Aside0.mk (blk_below BK4.out hb); replace HB := Aside0.mk (below_step HB.out hb); replace HZ := Aside0.mk (Nat.le_trans HZ.out hb.size); clear hb; (try clear hx4_0 hx4_1 hx4_2); obtain ⟨hx4_0, hx4_1, hx4_2⟩ := XW.Xc3 BK4))
    go_ret
    exact ⟨by first | rfl | (simp; done) | (simp [*]; done), HB.out⟩
  · skip
    obtain ⟨v1, he_, h⟩ := h
    have HE1 := Aside0.mk he_
    clear he_
    rcases h with hv1 | ⟨hv1, h⟩
    · skip
      go_enter Try.func6, Try.ntmps6
      go_wp2_with (first
        | ((with_reducible refine gate_dst (N := 4) rfl ?_); refine XW.Xbox 4 #[.int .i64 a1_0, .int .i64 a1_1, .slice A1_2 l1_2.length c1_2] 60 ?_; intro g4 hg w1 hbox hb; obtain ⟨z1, hz1⟩ : ∃ z_, z_ = w1.heap.size := ⟨_, rfl⟩; have Oz1 := Aside0.mk (show z0 ≤ z1 from by have h1_ := HZ.out; have h2_ := hb.size; omega); have HG4 := Aside0.mk (show z0 ≤ g4 ∧ g4 < z1 from by have h1_ := HZ.out; have h2_ := blk_lt hbox; omega); have BK4 := Aside0.mk hbox; replace HB := Aside0.mk (below_step HB.out hb); replace HZ := Aside0.mk (Nat.le_of_eq hz1); clear hb hbox hg hz1; obtain ⟨hx4_0, hx4_1, hx4_2⟩ := XW.Xc3 BK4)
        | ((with_reducible refine gate_callee (f := 24) rfl ?_); refine XW.Xgo 21 Try.func24 #[.slice A0 l0.length c0, .int .i64 1048576] ?_; (with_reducible refine (laws_szRuleS.calls k A0 c0 l0 1048576 v0 _ (XW.Xc HC0) hc0 HE0.out).mono ?_); rintro e w2 ⟨rfl, hb⟩; refine ⟨_, rfl, ?_⟩; replace BK4 := Aside0.mk (blk_below BK4.out hb); replace HB := Aside0.mk (below_step HB.out hb); replace HZ := Aside0.mk (Nat.le_trans HZ.out hb.size); clear hb; (try clear hx4_0 hx4_1 hx4_2); obtain ⟨hx4_0, hx4_1, hx4_2⟩ := XW.Xc3 BK4)
        | ((with_reducible refine gate_callee (f := 33) rfl ?_); refine XW.Xgo 26 Try.func33 #[.agg #[.int .i64 a1_0, .int .i64 a1_1, .slice A1_2 l1_2.length c1_2], .int .i64 v0] ?_; (with_reducible refine (laws_szDoc.calls k a1_0 a1_1 A1_2 c1_2 l1_2 v0 v1 _ (XW.Xc HC1_2) hc1_2 HE1.out).mono ?_); rintro e w3 ⟨rfl, hb⟩; refine ⟨_, rfl, ?_⟩; replace BK4 := Aside0.mk (blk_below BK4.out hb); replace HB := Aside0.mk (below_step HB.out hb); replace HZ := Aside0.mk (Nat.le_trans HZ.out hb.size); clear hb; (try clear hx4_0 hx4_1 hx4_2); obtain ⟨hx4_0, hx4_1, hx4_2⟩ := XW.Xc3 BK4))
      go_ret
      exact ⟨by first | rfl | (simp; done) | (simp [*]; done), HB.out⟩
    · skip
      obtain ⟨x0, x1, x2, x3, r0, r1, n0, n1, n2, n3, n4, n5, q0_, q1_, q2_, q3_, q4_, q5_, q6_, q7_, q8_, q9_, q10_, q11_, q12_, q13_⟩ := h
      have HE2 := Aside0.mk q0_
      clear q0_
      have HE3 := Aside0.mk q1_
      clear q1_
      have HE4 := Aside0.mk q2_
      clear q2_
      have HE5 := Aside0.mk q3_
      clear q3_
      have HE6 := Aside0.mk q4_
      clear q4_
      have HE7 := Aside0.mk q5_
      clear q5_
      have HE8 := Aside0.mk q6_
      clear q6_
      have HE9 := Aside0.mk q7_
      clear q7_
      have HE10 := Aside0.mk q8_
      clear q8_
      have HE11 := Aside0.mk q9_
      clear q9_
      have HE12 := Aside0.mk q10_
      clear q10_
      go_enter Try.func6, Try.ntmps6
      go_upto_region 8 with (first
        | ((with_reducible refine gate_dst (N := 4) rfl ?_); refine XW.Xbox 4 #[.int .i64 a1_0, .int .i64 a1_1, .slice A1_2 l1_2.length c1_2] 60 ?_; intro g4 hg w1 hbox hb; obtain ⟨z1, hz1⟩ : ∃ z_, z_ = w1.heap.size := ⟨_, rfl⟩; have Oz1 := Aside0.mk (show z0 ≤ z1 from by have h1_ := HZ.out; have h2_ := hb.size; omega); have HG4 := Aside0.mk (show z0 ≤ g4 ∧ g4 < z1 from by have h1_ := HZ.out; have h2_ := blk_lt hbox; omega); have BK4 := Aside0.mk hbox; replace HB := Aside0.mk (below_step HB.out hb); replace HZ := Aside0.mk (Nat.le_of_eq hz1); clear hb hbox hg hz1; obtain ⟨hx4_0, hx4_1, hx4_2⟩ := XW.Xc3 BK4)
        | ((with_reducible refine gate_callee (f := 24) rfl ?_); refine XW.Xgo 21 Try.func24 #[.slice A0 l0.length c0, .int .i64 1048576] ?_; (with_reducible refine (laws_szRuleS.calls k A0 c0 l0 1048576 v0 _ (XW.Xc HC0) hc0 HE0.out).mono ?_); rintro e w2 ⟨rfl, hb⟩; refine ⟨_, rfl, ?_⟩; replace BK4 := Aside0.mk (blk_below BK4.out hb); replace HB := Aside0.mk (below_step HB.out hb); replace HZ := Aside0.mk (Nat.le_trans HZ.out hb.size); clear hb; (try clear hx4_0 hx4_1 hx4_2); obtain ⟨hx4_0, hx4_1, hx4_2⟩ := XW.Xc3 BK4)
        | ((with_reducible refine gate_callee (f := 33) rfl ?_); refine XW.Xgo 26 Try.func33 #[.agg #[.int .i64 a1_0, .int .i64 a1_1, .slice A1_2 l1_2.length c1_2], .int .i64 v0] ?_; (with_reducible refine (laws_szDoc.calls k a1_0 a1_1 A1_2 c1_2 l1_2 v0 v1 _ (XW.Xc HC1_2) hc1_2 HE1.out).mono ?_); rintro e w3 ⟨rfl, hb⟩; refine ⟨_, rfl, ?_⟩; replace BK4 := Aside0.mk (blk_below BK4.out hb); replace HB := Aside0.mk (below_step HB.out hb); replace HZ := Aside0.mk (Nat.le_trans HZ.out hb.size); clear hb; (try clear hx4_0 hx4_1 hx4_2); obtain ⟨hx4_0, hx4_1, hx4_2⟩ := XW.Xc3 BK4))
      replace BK4 := Aside0.mk (blk_drew BK4.out)
      (try clear hx4_0 hx4_1 hx4_2)
      replace HZ := Aside0.mk (show z1 ≤ w3.drew.heap.size from HZ.out)
      replace HB := Aside0.mk (below_drew1 HB.out)
      refine start_ (n := 11) (S := fun w' => w'.cell? ⟨g4, 0, none⟩ = some (.int .i64 a1_0) ∧ w'.cell? ⟨g4, 1, none⟩ = some (.int .i64 a1_1) ∧ w'.cell? ⟨g4, 2, none⟩ = some (.slice A1_2 l1_2.length c1_2)) (ds := []) #[false, false, false, false, false, false, false, false, false, false, false] (by kernel_rfl) rfl rfl ⟨(blk_cell BK4.out 0).trans rfl, (blk_cell BK4.out 1).trans rfl, (blk_cell BK4.out 2).trans rfl⟩ (fun hHeld => ?_)
      generalize w3.drew = w4 at BK4 HB HZ hHeld ⊢
      refine pure_ (i := 0) (N := some 30) (v := ?_) (a' := ?_) #[true, false, false, false, false, false, false, false, false, false, false] rfl rfl (by kernel_rfl) (fun _ _ _ h => h) (Or.inl ⟨by rfl, ?_⟩) ?_ ?_
      rotate_left
      · intro w'
        go_simp
        with_reducible rfl
      rotate_left
      · simp only [XW.q0, XW.q1, XW.q2, i64_w, i32_w]
        rfl
      refine take_ (i := 2) (N := some 32) (v := ?_) (a' := ?_) #[true, false, true, false, false, false, false, false, false, false, false] rfl rfl (by kernel_rfl) (fun _ _ _ h => h) (Or.inl ⟨by rfl, ?_⟩) hHeld ?_ ?_
      rotate_left
      · rintro w' ⟨s0_, s1_, s2_⟩
        go_simp
        with_reducible rfl
      rotate_left
      · simp only [XW.q0, XW.q1, XW.q2, i64_w, i32_w]
        rfl
      refine pure_ (i := 4) (N := some 34) (v := ?_) (a' := ?_) #[true, false, true, false, true, false, false, false, false, false, false] rfl rfl (by kernel_rfl) (fun _ _ _ h => h) (Or.inl ⟨by rfl, ?_⟩) ?_ ?_
      rotate_left
      · intro w'
        go_simp
        with_reducible rfl
      rotate_left
      · simp only [XW.q0, XW.q1, XW.q2, i64_w, i32_w]
        rfl
      refine one_ (i := 1) (N := some 31) #[true, true, true, false, true, false, false, false, false, false, false] rfl rfl (by kernel_rfl) (by decide) (fun K hK => ?_)
      refine goes_ Try.func26 (by kernel_rfl) rfl #[.slice A0 l0.length c0] (by rfl) rfl rfl (by (try simp only [List.map_toArray, List.map_cons, List.map_nil]); first | done | rfl | (simp only [List.length_drop, List.length_take]; rfl)) ?_
      (with_reducible refine (laws_toRuleS.calls k A0 c0 l0 x0 _ (XW.Xc HC0) hc0 HE2.out).mono ?_)
      rintro e w5 ⟨v5_0, rfl, hf0, hb⟩
      refine ⟨_, rfl, ?_⟩
      replace BK4 := Aside0.mk (blk_below BK4.out hb)
      obtain ⟨z2, hz2⟩ : ∃ z_, z_ = w5.heap.size := ⟨_, rfl⟩
      have Oz2 := Aside0.mk (show z1 ≤ z2 from by have h1_ := HZ.out; have h2_ := hb.size; omega)
      have F5_0 := Aside0.mk (HL.S_new hf0 HZ.out (below_size HB.out) hz2)
      replace HB := Aside0.mk (below_step HB.out hb)
      replace HZ := Aside0.mk (Nat.le_of_eq hz2)
      clear hb
      clear hf0 hz2
      obtain ⟨A5_0, c5_0, e_⟩ := Kd.S_slice F5_0.out
      subst e_
      (try clear hx4_0 hx4_1 hx4_2)
      obtain ⟨hx4_0, hx4_1, hx4_2⟩ := XW.Xc3 BK4
      refine hK.out _ _ ⟨hx4_0, hx4_1, hx4_2⟩ (fun hHeld => ?_)
      clear hK K
      refine XW.Xno ?_
      refine one_ (i := 3) (N := some 33) #[true, true, true, true, true, false, false, false, false, false, false] rfl rfl (by kernel_rfl) (by decide) (fun K hK => ?_)
      refine goes_ Try.func35 (by kernel_rfl) rfl #[.agg #[.int .i64 a1_0, .int .i64 a1_1, .slice A1_2 l1_2.length c1_2]] (by rfl) rfl rfl (by (try simp only [List.map_toArray, List.map_cons, List.map_nil]); first | done | rfl | (simp only [List.length_drop, List.length_take]; rfl)) ?_
      (with_reducible refine (laws_toDoc.calls k a1_0 a1_1 A1_2 c1_2 l1_2 x1 x2 x3 _ (XW.Xc HC1_2) hc1_2 HE3.out).mono ?_)
      rintro e w6 ⟨v6_0, rfl, hf0, hb⟩
      refine ⟨_, rfl, ?_⟩
      replace F5_0 := Aside0.mk (Kd.S_below F5_0.out hb)
      replace BK4 := Aside0.mk (blk_below BK4.out hb)
      obtain ⟨z3, hz3⟩ : ∃ z_, z_ = w6.heap.size := ⟨_, rfl⟩
      have Oz3 := Aside0.mk (show z2 ≤ z3 from by have h1_ := HZ.out; have h2_ := hb.size; omega)
      have F6_0 := Aside0.mk (HL.S_new hf0 HZ.out (below_size HB.out) hz3)
      replace HB := Aside0.mk (below_step HB.out hb)
      replace HZ := Aside0.mk (Nat.le_of_eq hz3)
      clear hb
      clear hf0 hz3
      obtain ⟨A6_0, c6_0, e_⟩ := Kd.S_slice F6_0.out
      subst e_
      (try clear hx4_0 hx4_1 hx4_2)
      obtain ⟨hx4_0, hx4_1, hx4_2⟩ := XW.Xc3 BK4
      refine hK.out _ _ ⟨hx4_0, hx4_1, hx4_2⟩ (fun hHeld => ?_)
      clear hK K
      refine XW.Xno ?_
      refine one_ (i := 5) (N := some 35) #[true, true, true, true, true, true, false, false, false, false, false] rfl rfl (by kernel_rfl) (by decide) (fun K hK => ?_)
      refine goes_ Try.func34 (by kernel_rfl) rfl #[.slice A5_0 x0.length c5_0, .agg #[.int .i64 x1, .int .i64 x2, .slice A6_0 x3.length c6_0], .int .i64 a2] (by rfl) rfl rfl (by (try simp only [List.map_toArray, List.map_cons, List.map_nil]); first | done | rfl | (simp only [List.length_drop, List.length_take]; rfl)) ?_
      (with_reducible refine (spec_MayInsert.calls k A5_0 c5_0 x0 x1 x2 A6_0 c6_0 x3 a2 r0 r1 _ (kRS_C (Kd.S_reads' F5_0.out).2.2) (Kd.S_reads' F5_0.out).2.1 (Kd.S_reads' F6_0.out).2.2 (Kd.S_reads' F6_0.out).2.1 HE4.out).mono ?_)
      rintro e w7 ⟨v7_0, rfl, hf0, hb⟩
      refine ⟨_, rfl, ?_⟩
      replace BK4 := Aside0.mk (blk_below BK4.out hb)
      obtain ⟨z4, hz4⟩ : ∃ z_, z_ = w7.heap.size := ⟨_, rfl⟩
      have Oz4 := Aside0.mk (show z3 ≤ z4 from by have h1_ := HZ.out; have h2_ := hb.size; omega)
      have F7_0 := Aside0.mk (HL.R_new hf0 HZ.out (below_size HB.out) hz4)
      replace HB := Aside0.mk (below_step HB.out hb)
      replace HZ := Aside0.mk (Nat.le_of_eq hz4)
      clear hb
      clear hf0 hz4
      obtain ⟨A7_0, c7_0, e_⟩ := Kd.R_slice F7_0.out
      subst e_
      clear F5_0 F6_0
      (try clear hx4_0 hx4_1 hx4_2)
      obtain ⟨hx4_0, hx4_1, hx4_2⟩ := XW.Xc3 BK4
      refine hK.out _ _ ⟨hx4_0, hx4_1, hx4_2⟩ (fun hHeld => ?_)
      clear hK K
      refine XW.Xno ?_
      refine pure_ (i := 6) (N := some 29) (v := ?_) (a' := ?_) #[true, true, true, true, true, true, true, false, false, false, false] rfl rfl (by kernel_rfl) (fun _ _ _ h => h) (Or.inl ⟨by rfl, ?_⟩) ?_ ?_
      rotate_left
      · intro w'
        go_simp
        with_reducible rfl
      rotate_left
      · simp only [XW.q0, XW.q1, XW.q2, i64_w, i32_w]
        rfl
      refine pure_ (i := 7) (N := some 36) (v := ?_) (a' := ?_) #[true, true, true, true, true, true, true, true, false, false, false] rfl rfl (by kernel_rfl) (fun _ _ _ h => h) (Or.inl ⟨by rfl, ?_⟩) ?_ ?_
      rotate_left
      · intro w'
        go_simp
        with_reducible rfl
      rotate_left
      · simp only [XW.q0, XW.q1, XW.q2, i64_w, i32_w]
        rfl
      refine pure_ (i := 8) (N := some 37) (v := ?_) (a' := ?_) #[true, true, true, true, true, true, true, true, true, false, false] rfl rfl (by kernel_rfl) (fun _ _ _ h => h) (Or.inl ⟨by rfl, ?_⟩) ?_ ?_
      rotate_left
      · intro w'
        go_simp
        with_reducible rfl
      rotate_left
      · simp only [XW.q0, XW.q1, XW.q2, i64_w, i32_w]
        rfl
      refine pure_ (i := 9) (N := some 8) (v := ?_) (a' := ?_) #[true, true, true, true, true, true, true, true, true, true, false] rfl rfl (by kernel_rfl) (fun _ _ _ h => h) (Or.inl ⟨by rfl, ?_⟩) ?_ ?_
      rotate_left
      · intro w'
        go_simp
        with_reducible rfl
      rotate_left
      · simp only [XW.q0, XW.q1, XW.q2, i64_w, i32_w]
        rfl
      refine pure_ (i := 10) (N := some 9) (v := ?_) (a' := ?_) #[true, true, true, true, true, true, true, true, true, true, true] rfl rfl (by kernel_rfl) (fun _ _ _ h => h) (Or.inl ⟨by rfl, ?_⟩) ?_ ?_
      rotate_left
      · intro w'
        go_simp
        with_reducible rfl
      rotate_left
      · simp only [XW.q0, XW.q1, XW.q2, i64_w, i32_w]
        rfl
      refine done_ (by kernel_rfl) ?_
      go_upto_region 16 with (first
        | ((with_reducible refine gate_callee (f := 26) rfl ?_); refine XW.Xgo 39 Try.func26 #[.slice A0 l0.length c0] ?_; (with_reducible refine (laws_toRuleS.calls k A0 c0 l0 x0 _ (XW.Xc HC0) hc0 HE2.out).mono ?_); rintro e w8 ⟨v8_0, rfl, hf0, hb⟩; refine ⟨_, rfl, ?_⟩; replace F7_0 := Aside0.mk (Kd.R_below F7_0.out hb); replace BK4 := Aside0.mk (blk_below BK4.out hb); obtain ⟨z5, hz5⟩ : ∃ z_, z_ = w8.heap.size := ⟨_, rfl⟩; have Oz5 := Aside0.mk (show z4 ≤ z5 from by have h1_ := HZ.out; have h2_ := hb.size; omega); have F8_0 := Aside0.mk (HL.S_new hf0 HZ.out (below_size HB.out) hz5); replace HB := Aside0.mk (below_step HB.out hb); replace HZ := Aside0.mk (Nat.le_of_eq hz5); clear hb; clear hf0 hz5; obtain ⟨A8_0, c8_0, e_⟩ := Kd.S_slice F8_0.out; subst e_; (try clear hx4_0 hx4_1 hx4_2); obtain ⟨hx4_0, hx4_1, hx4_2⟩ := XW.Xc3 BK4)
        | ((with_reducible refine gate_callee (f := 35) rfl ?_); refine XW.Xgo 41 Try.func35 #[.agg #[.int .i64 a1_0, .int .i64 a1_1, .slice A1_2 l1_2.length c1_2]] ?_; (with_reducible refine (laws_toDoc.calls k a1_0 a1_1 A1_2 c1_2 l1_2 x1 x2 x3 _ (XW.Xc HC1_2) hc1_2 HE3.out).mono ?_); rintro e w9 ⟨v9_0, rfl, hf0, hb⟩; refine ⟨_, rfl, ?_⟩; replace F7_0 := Aside0.mk (Kd.R_below F7_0.out hb); replace F8_0 := Aside0.mk (Kd.S_below F8_0.out hb); replace BK4 := Aside0.mk (blk_below BK4.out hb); obtain ⟨z6, hz6⟩ : ∃ z_, z_ = w9.heap.size := ⟨_, rfl⟩; have Oz6 := Aside0.mk (show z5 ≤ z6 from by have h1_ := HZ.out; have h2_ := hb.size; omega); have F9_0 := Aside0.mk (HL.S_new hf0 HZ.out (below_size HB.out) hz6); replace HB := Aside0.mk (below_step HB.out hb); replace HZ := Aside0.mk (Nat.le_of_eq hz6); clear hb; clear hf0 hz6; obtain ⟨A9_0, c9_0, e_⟩ := Kd.S_slice F9_0.out; subst e_; (try clear hx4_0 hx4_1 hx4_2); obtain ⟨hx4_0, hx4_1, hx4_2⟩ := XW.Xc3 BK4)
        | ((with_reducible refine gate_dst (N := 11) rfl ?_); refine XW.Xbox 11 #[.int .i64 0, .int .i64 0, .slice none 0 0] 65 ?_; intro g11 hg w10 hbox hb; replace F7_0 := Aside0.mk (Kd.R_below F7_0.out hb); replace F8_0 := Aside0.mk (Kd.S_below F8_0.out hb); replace F9_0 := Aside0.mk (Kd.S_below F9_0.out hb); replace BK4 := Aside0.mk (blk_below BK4.out hb); obtain ⟨z7, hz7⟩ : ∃ z_, z_ = w10.heap.size := ⟨_, rfl⟩; have Oz7 := Aside0.mk (show z6 ≤ z7 from by have h1_ := HZ.out; have h2_ := hb.size; omega); have HG11 := Aside0.mk (show z6 ≤ g11 ∧ g11 < z7 from by have h1_ := HZ.out; have h2_ := blk_lt hbox; omega); have BK11 := Aside0.mk hbox; replace HB := Aside0.mk (below_step HB.out hb); replace HZ := Aside0.mk (Nat.le_of_eq hz7); clear hb hbox hg hz7; (try clear hx4_0 hx4_1 hx4_2); obtain ⟨hx4_0, hx4_1, hx4_2⟩ := XW.Xc3 BK4; obtain ⟨hx11_0, hx11_1, hx11_2⟩ := XW.Xc3 BK11; obtain ⟨hz11_0, hz11_1, hz11_2⟩ := XW.Xf3 BK11)
        | ((with_reducible refine gate_store (t := 65) (p := 11) rfl ?_); refine store_event (t := 65) (p := 11) (v := ?vo_w11) (w1 := w10.setCells g11 0 [.int .i64 x1, .int .i64 x2, .slice A9_0 x3.length c9_0]) ?hg ?ho ?hn ?hr ?_; (case ho => rfl); (case hg => rfl); (case hn => rfl); (case hr => first | (go_simp; done) | (go_simp; rfl)); intro w11 hw; obtain ⟨hbk, hk, hbl⟩ := HL.filled3 hw BK11.out; replace F7_0 := Aside0.mk (Kd.R_kept F7_0.out hk (fun k_ h1_ hs_ => by have a2_ := HG11.out; have oz1_ := Oz1.out; have oz2_ := Oz2.out; have oz3_ := Oz3.out; have oz4_ := Oz4.out; have oz5_ := Oz5.out; have oz6_ := Oz6.out; have oz7_ := Oz7.out; omega)); replace F8_0 := Aside0.mk (Kd.S_kept F8_0.out hk (fun k_ h1_ hs_ => by have a2_ := HG11.out; have oz1_ := Oz1.out; have oz2_ := Oz2.out; have oz3_ := Oz3.out; have oz4_ := Oz4.out; have oz5_ := Oz5.out; have oz6_ := Oz6.out; have oz7_ := Oz7.out; omega)); replace F9_0 := Aside0.mk (Kd.S_kept F9_0.out hk (fun k_ h1_ hs_ => by have a2_ := HG11.out; have oz1_ := Oz1.out; have oz2_ := Oz2.out; have oz3_ := Oz3.out; have oz4_ := Oz4.out; have oz5_ := Oz5.out; have oz6_ := Oz6.out; have oz7_ := Oz7.out; omega)); replace BK4 := Aside0.mk (blk_kept BK4.out hk (fun hs_ => by have e_ : g4 = g11 := hs_; have a1_ := HG4.out; have a2_ := HG11.out; have oz1_ := Oz1.out; have oz2_ := Oz2.out; have oz3_ := Oz3.out; have oz4_ := Oz4.out; have oz5_ := Oz5.out; have oz6_ := Oz6.out; have oz7_ := Oz7.out; omega)); replace BK11 := Aside0.mk hbk; replace HB := Aside0.mk (hbl w HB.out (by have a1_ := HG11.out; have a2_ := HZ0.out; have oz1_ := Oz1.out; have oz2_ := Oz2.out; have oz3_ := Oz3.out; have oz4_ := Oz4.out; have oz5_ := Oz5.out; have oz6_ := Oz6.out; have oz7_ := Oz7.out; omega)); replace HZ := Aside0.mk (Nat.le_trans HZ.out hk.1); clear hbk hk hbl hw hx11_0 hx11_1 hx11_2 hz11_0 hz11_1 hz11_2; (try clear hx4_0 hx4_1 hx4_2); (try clear hx11_0 hx11_1 hx11_2); obtain ⟨hx4_0, hx4_1, hx4_2⟩ := XW.Xc3 BK4; obtain ⟨hx11_0, hx11_1, hx11_2⟩ := XW.Xc3 BK11)
        | ((with_reducible refine gate_callee (f := 36) rfl ?_); refine XW.Xgo 46 Try.func36 #[.slice A8_0 x0.length c8_0, .agg #[.int .i64 x1, .int .i64 x2, .slice A9_0 x3.length c9_0], .int .i64 a2] ?_; (with_reducible refine (impl_MayInsert.calls k A8_0 c8_0 x0 x1 x2 A9_0 c9_0 x3 a2 r0 r1 _ (kRS_C (Kd.S_reads' F8_0.out).2.2) (Kd.S_reads' F8_0.out).2.1 (Kd.S_reads' F9_0.out).2.2 (Kd.S_reads' F9_0.out).2.1 HE5.out).mono ?_); rintro e w12 ⟨v12_0, rfl, hf0, hb⟩; refine ⟨_, rfl, ?_⟩; replace F7_0 := Aside0.mk (Kd.R_below F7_0.out hb); replace F8_0 := Aside0.mk (Kd.S_below F8_0.out hb); replace F9_0 := Aside0.mk (Kd.S_below F9_0.out hb); replace BK4 := Aside0.mk (blk_below BK4.out hb); replace BK11 := Aside0.mk (blk_below BK11.out hb); obtain ⟨z8, hz8⟩ : ∃ z_, z_ = w12.heap.size := ⟨_, rfl⟩; have Oz8 := Aside0.mk (show z7 ≤ z8 from by have h1_ := HZ.out; have h2_ := hb.size; omega); have F12_0 := Aside0.mk (HL.R_new hf0 HZ.out (below_size HB.out) hz8); replace HB := Aside0.mk (below_step HB.out hb); replace HZ := Aside0.mk (Nat.le_of_eq hz8); clear hb; clear hf0 hz8; obtain ⟨A12_0, c12_0, e_⟩ := Kd.R_slice F12_0.out; subst e_; (try clear hx4_0 hx4_1 hx4_2); (try clear hx11_0 hx11_1 hx11_2); obtain ⟨hx4_0, hx4_1, hx4_2⟩ := XW.Xc3 BK4; obtain ⟨hx11_0, hx11_1, hx11_2⟩ := XW.Xc3 BK11)
        | ((with_reducible refine gate_callee (f := 21) rfl ?_); refine XW.Xgo 51 Try.func21 #[.slice A12_0 r0.length c12_0, .slice A7_0 r0.length c7_0] ?_; (with_reducible refine (laws_eqIntS.calls k A12_0 c12_0 r0 A7_0 c7_0 r0 true _ (Kd.R_reads' F12_0.out).2.2 (Kd.R_reads' F12_0.out).2.1 (Kd.R_reads' F7_0.out).2.2 (Kd.R_reads' F7_0.out).2.1 HE6.out).mono ?_); rintro e w13 ⟨rfl, hd_⟩; refine ⟨_, rfl, ?_⟩; have hb := hd_.below; clear hd_; replace F7_0 := Aside0.mk (Kd.R_below F7_0.out hb); replace F8_0 := Aside0.mk (Kd.S_below F8_0.out hb); replace F9_0 := Aside0.mk (Kd.S_below F9_0.out hb); replace F12_0 := Aside0.mk (Kd.R_below F12_0.out hb); replace BK4 := Aside0.mk (blk_below BK4.out hb); replace BK11 := Aside0.mk (blk_below BK11.out hb); replace HB := Aside0.mk (below_step HB.out hb); replace HZ := Aside0.mk (Nat.le_trans HZ.out hb.size); clear hb; (try clear hx4_0 hx4_1 hx4_2); (try clear hx11_0 hx11_1 hx11_2); obtain ⟨hx4_0, hx4_1, hx4_2⟩ := XW.Xc3 BK4; obtain ⟨hx11_0, hx11_1, hx11_2⟩ := XW.Xc3 BK11)
        | ((with_reducible refine gate_callee (f := 26) rfl ?_); refine XW.Xgo 60 Try.func26 #[.slice A0 l0.length c0] ?_; (with_reducible refine (laws_toRuleS.calls k A0 c0 l0 x0 _ (XW.Xc HC0) hc0 HE2.out).mono ?_); rintro e w14 ⟨v14_0, rfl, hf0, hb⟩; refine ⟨_, rfl, ?_⟩; replace F7_0 := Aside0.mk (Kd.R_below F7_0.out hb); replace F8_0 := Aside0.mk (Kd.S_below F8_0.out hb); replace F9_0 := Aside0.mk (Kd.S_below F9_0.out hb); replace F12_0 := Aside0.mk (Kd.R_below F12_0.out hb); replace BK4 := Aside0.mk (blk_below BK4.out hb); replace BK11 := Aside0.mk (blk_below BK11.out hb); obtain ⟨z9, hz9⟩ : ∃ z_, z_ = w14.heap.size := ⟨_, rfl⟩; have Oz9 := Aside0.mk (show z8 ≤ z9 from by have h1_ := HZ.out; have h2_ := hb.size; omega); have F14_0 := Aside0.mk (HL.S_new hf0 HZ.out (below_size HB.out) hz9); replace HB := Aside0.mk (below_step HB.out hb); replace HZ := Aside0.mk (Nat.le_of_eq hz9); clear hb; clear hf0 hz9; obtain ⟨A14_0, c14_0, e_⟩ := Kd.S_slice F14_0.out; subst e_; (try clear hx4_0 hx4_1 hx4_2); (try clear hx11_0 hx11_1 hx11_2); obtain ⟨hx4_0, hx4_1, hx4_2⟩ := XW.Xc3 BK4; obtain ⟨hx11_0, hx11_1, hx11_2⟩ := XW.Xc3 BK11)
        | ((with_reducible refine gate_callee (f := 29) rfl ?_); refine XW.Xgo 61 Try.func29 #[.slice A8_0 x0.length c8_0, .slice A14_0 x0.length c14_0] ?_; (with_reducible refine (laws_eqRuleS.calls k A8_0 c8_0 x0 A14_0 c14_0 x0 true _ (kRS_C (Kd.S_reads' F8_0.out).2.2) (Kd.S_reads' F8_0.out).2.1 (kRS_C (Kd.S_reads' F14_0.out).2.2) (Kd.S_reads' F14_0.out).2.1 HE7.out).mono ?_); rintro e w15 ⟨rfl, hb⟩; refine ⟨_, rfl, ?_⟩; replace F7_0 := Aside0.mk (Kd.R_below F7_0.out hb); replace F8_0 := Aside0.mk (Kd.S_below F8_0.out hb); replace F9_0 := Aside0.mk (Kd.S_below F9_0.out hb); replace F12_0 := Aside0.mk (Kd.R_below F12_0.out hb); replace BK4 := Aside0.mk (blk_below BK4.out hb); replace BK11 := Aside0.mk (blk_below BK11.out hb); replace HB := Aside0.mk (below_step HB.out hb); replace HZ := Aside0.mk (Nat.le_trans HZ.out hb.size); clear hb; clear F14_0; (try clear hx4_0 hx4_1 hx4_2); (try clear hx11_0 hx11_1 hx11_2); obtain ⟨hx4_0, hx4_1, hx4_2⟩ := XW.Xc3 BK4; obtain ⟨hx11_0, hx11_1, hx11_2⟩ := XW.Xc3 BK11))
      replace F7_0 := Aside0.mk (Kd.R_drew F7_0.out)
      replace F8_0 := Aside0.mk (Kd.S_drew F8_0.out)
      replace F9_0 := Aside0.mk (Kd.S_drew F9_0.out)
      replace F12_0 := Aside0.mk (Kd.R_drew F12_0.out)
      replace BK4 := Aside0.mk (blk_drew BK4.out)
      replace BK11 := Aside0.mk (blk_drew BK11.out)
      (try clear hx4_0 hx4_1 hx4_2)
      (try clear hx11_0 hx11_1 hx11_2)
      replace HZ := Aside0.mk (show z9 ≤ w15.drew.heap.size from HZ.out)
      replace HB := Aside0.mk (below_drew1 HB.out)
      refine start_ (n := 5) (S := fun w' => w'.cell? ⟨g4, 0, none⟩ = some (.int .i64 a1_0) ∧ w'.cell? ⟨g4, 1, none⟩ = some (.int .i64 a1_1) ∧ w'.cell? ⟨g4, 2, none⟩ = some (.slice A1_2 l1_2.length c1_2) ∧ w'.cell? ⟨g11, 0, none⟩ = some (.int .i64 x1) ∧ w'.cell? ⟨g11, 1, none⟩ = some (.int .i64 x2) ∧ w'.cell? ⟨g11, 2, none⟩ = some (.slice A9_0 x3.length c9_0)) (ds := []) #[false, false, false, false, false] (by kernel_rfl) rfl rfl ⟨(blk_cell BK4.out 0).trans rfl, (blk_cell BK4.out 1).trans rfl, (blk_cell BK4.out 2).trans rfl, (blk_cell BK11.out 0).trans rfl, (blk_cell BK11.out 1).trans rfl, (blk_cell BK11.out 2).trans rfl⟩ (fun hHeld => ?_)
      generalize w15.drew = w16 at F7_0 F8_0 F9_0 F12_0 BK4 BK11 HB HZ hHeld ⊢
      refine take_ (i := 0) (N := some 63) (v := ?_) (a' := ?_) #[true, false, false, false, false] rfl rfl (by kernel_rfl) (fun _ _ _ h => h) (Or.inl ⟨by rfl, ?_⟩) hHeld ?_ ?_
      rotate_left
      · rintro w' ⟨s0_, s1_, s2_, s3_, s4_, s5_⟩
        go_simp
        with_reducible rfl
      rotate_left
      · simp only [XW.q0, XW.q1, XW.q2, i64_w, i32_w]
        rfl
      refine take_ (i := 1) (N := some 64) (v := ?_) (a' := ?_) #[true, true, false, false, false] rfl rfl (by kernel_rfl) (fun _ _ _ h => h) (Or.inl ⟨by rfl, ?_⟩) hHeld ?_ ?_
      rotate_left
      · rintro w' ⟨s0_, s1_, s2_, s3_, s4_, s5_⟩
        go_simp
        with_reducible rfl
      rotate_left
      · simp only [XW.q0, XW.q1, XW.q2, i64_w, i32_w]
        rfl
      refine one_ (i := 2) (N := some 65) #[true, true, true, false, false] rfl rfl (by kernel_rfl) (by decide) (fun K hK => ?_)
      refine goes_ Try.func35 (by kernel_rfl) rfl #[.agg #[.int .i64 a1_0, .int .i64 a1_1, .slice A1_2 l1_2.length c1_2]] (by rfl) rfl rfl (by (try simp only [List.map_toArray, List.map_cons, List.map_nil]); first | done | rfl | (simp only [List.length_drop, List.length_take]; rfl)) ?_
      (with_reducible refine (laws_toDoc.calls k a1_0 a1_1 A1_2 c1_2 l1_2 x1 x2 x3 _ (XW.Xc HC1_2) hc1_2 HE3.out).mono ?_)
      rintro e w17 ⟨v17_0, rfl, hf0, hb⟩
      refine ⟨_, rfl, ?_⟩
      replace F7_0 := Aside0.mk (Kd.R_below F7_0.out hb)
      replace F8_0 := Aside0.mk (Kd.S_below F8_0.out hb)
      replace F9_0 := Aside0.mk (Kd.S_below F9_0.out hb)
      replace F12_0 := Aside0.mk (Kd.R_below F12_0.out hb)
      replace BK4 := Aside0.mk (blk_below BK4.out hb)
      replace BK11 := Aside0.mk (blk_below BK11.out hb)
      obtain ⟨z10, hz10⟩ : ∃ z_, z_ = w17.heap.size := ⟨_, rfl⟩
      have Oz10 := Aside0.mk (show z9 ≤ z10 from by have h1_ := HZ.out; have h2_ := hb.size; omega)
      have F17_0 := Aside0.mk (HL.S_new hf0 HZ.out (below_size HB.out) hz10)
      replace HB := Aside0.mk (below_step HB.out hb)
      replace HZ := Aside0.mk (Nat.le_of_eq hz10)
      clear hb
      clear hf0 hz10
      obtain ⟨A17_0, c17_0, e_⟩ := Kd.S_slice F17_0.out
      subst e_
      (try clear hx4_0 hx4_1 hx4_2)
      (try clear hx11_0 hx11_1 hx11_2)
      obtain ⟨hx4_0, hx4_1, hx4_2⟩ := XW.Xc3 BK4
      obtain ⟨hx11_0, hx11_1, hx11_2⟩ := XW.Xc3 BK11
      refine hK.out _ _ ⟨hx4_0, hx4_1, hx4_2, hx11_0, hx11_1, hx11_2⟩ (fun hHeld => ?_)
      clear hK K
      refine XW.Xno ?_
      refine one_ (i := 3) (N := some 66) #[true, true, true, true, false] rfl rfl (by kernel_rfl) (by decide) (fun K hK => ?_)
      refine goes_ Try.func37 (by kernel_rfl) rfl #[.agg #[.int .i64 x1, .int .i64 x2, .slice A9_0 x3.length c9_0], .agg #[.int .i64 x1, .int .i64 x2, .slice A17_0 x3.length c17_0]] (by rfl) rfl rfl (by (try simp only [List.map_toArray, List.map_cons, List.map_nil]); first | done | rfl | (simp only [List.length_drop, List.length_take]; rfl)) ?_
      (with_reducible refine (laws_eqDoc.calls k x1 x2 A9_0 c9_0 x3 x1 x2 A17_0 c17_0 x3 true _ (Kd.S_reads' F9_0.out).2.2 (Kd.S_reads' F9_0.out).2.1 (Kd.S_reads' F17_0.out).2.2 (Kd.S_reads' F17_0.out).2.1 HE8.out).mono ?_)
      rintro e w18 ⟨rfl, hb⟩
      refine ⟨_, rfl, ?_⟩
      replace F7_0 := Aside0.mk (Kd.R_below F7_0.out hb)
      replace F8_0 := Aside0.mk (Kd.S_below F8_0.out hb)
      replace F9_0 := Aside0.mk (Kd.S_below F9_0.out hb)
      replace F12_0 := Aside0.mk (Kd.R_below F12_0.out hb)
      replace BK4 := Aside0.mk (blk_below BK4.out hb)
      replace BK11 := Aside0.mk (blk_below BK11.out hb)
      replace HB := Aside0.mk (below_step HB.out hb)
      replace HZ := Aside0.mk (Nat.le_trans HZ.out hb.size)
      clear hb
      clear F17_0
      (try clear hx4_0 hx4_1 hx4_2)
      (try clear hx11_0 hx11_1 hx11_2)
      obtain ⟨hx4_0, hx4_1, hx4_2⟩ := XW.Xc3 BK4
      obtain ⟨hx11_0, hx11_1, hx11_2⟩ := XW.Xc3 BK11
      refine hK.out _ _ ⟨hx4_0, hx4_1, hx4_2, hx11_0, hx11_1, hx11_2⟩ (fun hHeld => ?_)
      clear hK K
      refine XW.Xno ?_
      refine pure_ (i := 4) (N := some 67) (v := ?_) (a' := ?_) #[true, true, true, true, true] rfl rfl (by kernel_rfl) (fun _ _ _ h => h) (Or.inl ⟨by rfl, ?_⟩) ?_ ?_
      rotate_left
      · intro w'
        go_simp
        with_reducible rfl
      rotate_left
      · simp only [XW.q0, XW.q1, XW.q2, i64_w, i32_w]
        rfl
      refine done_ (by kernel_rfl) ?_
      go_upto_region 31 with (first
        | ((with_reducible refine gate_callee (f := 30) rfl ?_); refine XW.Xgo 70 Try.func30 #[.slice A8_0 x0.length c8_0, .int .i64 1] ?_; (with_reducible refine (laws_markRuleS.calls k (fun k_ => z4 ≤ k_ ∧ k_ < z5) _ x0 1 n0 n1 w _ HB.out F8_0.out HE9.out).mono ?_); rintro e w19 ⟨rfl, hf0, hb, hk⟩; refine ⟨_, rfl, ?_⟩; replace F7_0 := Aside0.mk (Kd.R_kept F7_0.out hk (fun k_ h1_ hs_ => by have a2_ : z4 ≤ k_ ∧ k_ < z5 := (by first | exact hs_ | exact hs_.1 | exact Or.elim hs_ (fun q_ => q_.1) (fun q_ => q_.2) | exact Or.elim hs_ (fun q_ => q_.2) (fun q_ => q_.1)); have oz1_ := Oz1.out; have oz2_ := Oz2.out; have oz3_ := Oz3.out; have oz4_ := Oz4.out; have oz5_ := Oz5.out; have oz6_ := Oz6.out; have oz7_ := Oz7.out; have oz8_ := Oz8.out; have oz9_ := Oz9.out; have oz10_ := Oz10.out; omega)); replace F9_0 := Aside0.mk (Kd.S_kept F9_0.out hk (fun k_ h1_ hs_ => by have a2_ : z4 ≤ k_ ∧ k_ < z5 := (by first | exact hs_ | exact hs_.1 | exact Or.elim hs_ (fun q_ => q_.1) (fun q_ => q_.2) | exact Or.elim hs_ (fun q_ => q_.2) (fun q_ => q_.1)); have oz1_ := Oz1.out; have oz2_ := Oz2.out; have oz3_ := Oz3.out; have oz4_ := Oz4.out; have oz5_ := Oz5.out; have oz6_ := Oz6.out; have oz7_ := Oz7.out; have oz8_ := Oz8.out; have oz9_ := Oz9.out; have oz10_ := Oz10.out; omega)); replace F12_0 := Aside0.mk (Kd.R_kept F12_0.out hk (fun k_ h1_ hs_ => by have a2_ : z4 ≤ k_ ∧ k_ < z5 := (by first | exact hs_ | exact hs_.1 | exact Or.elim hs_ (fun q_ => q_.1) (fun q_ => q_.2) | exact Or.elim hs_ (fun q_ => q_.2) (fun q_ => q_.1)); have oz1_ := Oz1.out; have oz2_ := Oz2.out; have oz3_ := Oz3.out; have oz4_ := Oz4.out; have oz5_ := Oz5.out; have oz6_ := Oz6.out; have oz7_ := Oz7.out; have oz8_ := Oz8.out; have oz9_ := Oz9.out; have oz10_ := Oz10.out; omega)); replace BK4 := Aside0.mk (blk_kept BK4.out hk (fun hs_ => by have h1_ := HG4.out; obtain ⟨k_, e_⟩ : ∃ k_, k_ = g4 := ⟨_, rfl⟩; rw [← e_] at h1_ hs_; have a2_ : z4 ≤ k_ ∧ k_ < z5 := (by first | exact hs_ | exact hs_.1 | exact Or.elim hs_ (fun q_ => q_.1) (fun q_ => q_.2) | exact Or.elim hs_ (fun q_ => q_.2) (fun q_ => q_.1)); have oz1_ := Oz1.out; have oz2_ := Oz2.out; have oz3_ := Oz3.out; have oz4_ := Oz4.out; have oz5_ := Oz5.out; have oz6_ := Oz6.out; have oz7_ := Oz7.out; have oz8_ := Oz8.out; have oz9_ := Oz9.out; have oz10_ := Oz10.out; omega)); replace BK11 := Aside0.mk (blk_kept BK11.out hk (fun hs_ => by have h1_ := HG11.out; obtain ⟨k_, e_⟩ : ∃ k_, k_ = g11 := ⟨_, rfl⟩; rw [← e_] at h1_ hs_; have a2_ : z4 ≤ k_ ∧ k_ < z5 := (by first | exact hs_ | exact hs_.1 | exact Or.elim hs_ (fun q_ => q_.1) (fun q_ => q_.2) | exact Or.elim hs_ (fun q_ => q_.2) (fun q_ => q_.1)); have oz1_ := Oz1.out; have oz2_ := Oz2.out; have oz3_ := Oz3.out; have oz4_ := Oz4.out; have oz5_ := Oz5.out; have oz6_ := Oz6.out; have oz7_ := Oz7.out; have oz8_ := Oz8.out; have oz9_ := Oz9.out; have oz10_ := Oz10.out; omega)); replace F8_0 := Aside0.mk (hf0); replace HB := Aside0.mk hb; replace HZ := Aside0.mk (Nat.le_trans HZ.out hk.1); clear hb hk hf0; clear F8_0; (try clear hx4_0 hx4_1 hx4_2); (try clear hx11_0 hx11_1 hx11_2); obtain ⟨hx4_0, hx4_1, hx4_2⟩ := XW.Xc3 BK4; obtain ⟨hx11_0, hx11_1, hx11_2⟩ := XW.Xc3 BK11)
        | ((with_reducible refine gate_callee (f := 38) rfl ?_); refine XW.Xgo 73 Try.func38 #[.agg #[.int .i64 x1, .int .i64 x2, .slice A9_0 x3.length c9_0], .int .i64 n0] ?_; (with_reducible refine (laws_markDoc.calls k x1 x2 (fun k_ => z5 ≤ k_ ∧ k_ < z6) _ x3 n0 n2 n3 w _ HB.out F9_0.out HE10.out).mono ?_); rintro e w20 ⟨rfl, hf0, hb, hk⟩; refine ⟨_, rfl, ?_⟩; replace F7_0 := Aside0.mk (Kd.R_kept F7_0.out hk (fun k_ h1_ hs_ => by have a2_ : z5 ≤ k_ ∧ k_ < z6 := (by first | exact hs_ | exact hs_.1 | exact Or.elim hs_ (fun q_ => q_.1) (fun q_ => q_.2) | exact Or.elim hs_ (fun q_ => q_.2) (fun q_ => q_.1)); have oz1_ := Oz1.out; have oz2_ := Oz2.out; have oz3_ := Oz3.out; have oz4_ := Oz4.out; have oz5_ := Oz5.out; have oz6_ := Oz6.out; have oz7_ := Oz7.out; have oz8_ := Oz8.out; have oz9_ := Oz9.out; have oz10_ := Oz10.out; omega)); replace F12_0 := Aside0.mk (Kd.R_kept F12_0.out hk (fun k_ h1_ hs_ => by have a2_ : z5 ≤ k_ ∧ k_ < z6 := (by first | exact hs_ | exact hs_.1 | exact Or.elim hs_ (fun q_ => q_.1) (fun q_ => q_.2) | exact Or.elim hs_ (fun q_ => q_.2) (fun q_ => q_.1)); have oz1_ := Oz1.out; have oz2_ := Oz2.out; have oz3_ := Oz3.out; have oz4_ := Oz4.out; have oz5_ := Oz5.out; have oz6_ := Oz6.out; have oz7_ := Oz7.out; have oz8_ := Oz8.out; have oz9_ := Oz9.out; have oz10_ := Oz10.out; omega)); replace BK4 := Aside0.mk (blk_kept BK4.out hk (fun hs_ => by have h1_ := HG4.out; obtain ⟨k_, e_⟩ : ∃ k_, k_ = g4 := ⟨_, rfl⟩; rw [← e_] at h1_ hs_; have a2_ : z5 ≤ k_ ∧ k_ < z6 := (by first | exact hs_ | exact hs_.1 | exact Or.elim hs_ (fun q_ => q_.1) (fun q_ => q_.2) | exact Or.elim hs_ (fun q_ => q_.2) (fun q_ => q_.1)); have oz1_ := Oz1.out; have oz2_ := Oz2.out; have oz3_ := Oz3.out; have oz4_ := Oz4.out; have oz5_ := Oz5.out; have oz6_ := Oz6.out; have oz7_ := Oz7.out; have oz8_ := Oz8.out; have oz9_ := Oz9.out; have oz10_ := Oz10.out; omega)); replace BK11 := Aside0.mk (blk_kept BK11.out hk (fun hs_ => by have h1_ := HG11.out; obtain ⟨k_, e_⟩ : ∃ k_, k_ = g11 := ⟨_, rfl⟩; rw [← e_] at h1_ hs_; have a2_ : z5 ≤ k_ ∧ k_ < z6 := (by first | exact hs_ | exact hs_.1 | exact Or.elim hs_ (fun q_ => q_.1) (fun q_ => q_.2) | exact Or.elim hs_ (fun q_ => q_.2) (fun q_ => q_.1)); have oz1_ := Oz1.out; have oz2_ := Oz2.out; have oz3_ := Oz3.out; have oz4_ := Oz4.out; have oz5_ := Oz5.out; have oz6_ := Oz6.out; have oz7_ := Oz7.out; have oz8_ := Oz8.out; have oz9_ := Oz9.out; have oz10_ := Oz10.out; omega)); replace F9_0 := Aside0.mk (hf0); replace HB := Aside0.mk hb; replace HZ := Aside0.mk (Nat.le_trans HZ.out hk.1); clear hb hk hf0; clear F9_0; (try clear hx4_0 hx4_1 hx4_2); (try clear hx11_0 hx11_1 hx11_2); obtain ⟨hx4_0, hx4_1, hx4_2⟩ := XW.Xc3 BK4; obtain ⟨hx11_0, hx11_1, hx11_2⟩ := XW.Xc3 BK11)
        | (go_at_call 21; (with_reducible refine (laws_eqIntS.calls k A12_0 c12_0 r0 A7_0 c7_0 r0 true _ (Kd.R_reads' F12_0.out).2.2 (Kd.R_reads' F12_0.out).2.1 (Kd.R_reads' F7_0.out).2.2 (Kd.R_reads' F7_0.out).2.1 HE6.out).mono ?_); rintro e w21 ⟨rfl, hd_⟩; have hb := hd_.below; clear hd_; replace F7_0 := Aside0.mk (Kd.R_below F7_0.out hb); replace F12_0 := Aside0.mk (Kd.R_below F12_0.out hb); replace BK4 := Aside0.mk (blk_below BK4.out hb); replace BK11 := Aside0.mk (blk_below BK11.out hb); replace HB := Aside0.mk (below_step HB.out hb); replace HZ := Aside0.mk (Nat.le_trans HZ.out hb.size); clear hb; (try clear hx4_0 hx4_1 hx4_2); (try clear hx11_0 hx11_1 hx11_2); obtain ⟨hx4_0, hx4_1, hx4_2⟩ := XW.Xc3 BK4; obtain ⟨hx11_0, hx11_1, hx11_2⟩ := XW.Xc3 BK11)
        | ((with_reducible refine gate_callee (f := 22) rfl ?_); refine XW.Xgo 89 Try.func22 #[.slice A12_0 r0.length c12_0, .int .i64 1] ?_; (with_reducible refine (laws_markIntS.calls k (fun k_ => z7 ≤ k_ ∧ k_ < z8) _ r0 1 n4 n5 w _ HB.out F12_0.out HE11.out).mono ?_); rintro e w22 ⟨rfl, hf0, hb, hk⟩; refine ⟨_, rfl, ?_⟩; replace F7_0 := Aside0.mk (Kd.R_kept F7_0.out hk (fun k_ h1_ hs_ => by have a2_ : z7 ≤ k_ ∧ k_ < z8 := (by first | exact hs_ | exact hs_.1 | exact Or.elim hs_ (fun q_ => q_.1) (fun q_ => q_.2) | exact Or.elim hs_ (fun q_ => q_.2) (fun q_ => q_.1)); have oz1_ := Oz1.out; have oz2_ := Oz2.out; have oz3_ := Oz3.out; have oz4_ := Oz4.out; have oz5_ := Oz5.out; have oz6_ := Oz6.out; have oz7_ := Oz7.out; have oz8_ := Oz8.out; have oz9_ := Oz9.out; have oz10_ := Oz10.out; omega)); replace BK4 := Aside0.mk (blk_kept BK4.out hk (fun hs_ => by have h1_ := HG4.out; obtain ⟨k_, e_⟩ : ∃ k_, k_ = g4 := ⟨_, rfl⟩; rw [← e_] at h1_ hs_; have a2_ : z7 ≤ k_ ∧ k_ < z8 := (by first | exact hs_ | exact hs_.1 | exact Or.elim hs_ (fun q_ => q_.1) (fun q_ => q_.2) | exact Or.elim hs_ (fun q_ => q_.2) (fun q_ => q_.1)); have oz1_ := Oz1.out; have oz2_ := Oz2.out; have oz3_ := Oz3.out; have oz4_ := Oz4.out; have oz5_ := Oz5.out; have oz6_ := Oz6.out; have oz7_ := Oz7.out; have oz8_ := Oz8.out; have oz9_ := Oz9.out; have oz10_ := Oz10.out; omega)); replace BK11 := Aside0.mk (blk_kept BK11.out hk (fun hs_ => by have h1_ := HG11.out; obtain ⟨k_, e_⟩ : ∃ k_, k_ = g11 := ⟨_, rfl⟩; rw [← e_] at h1_ hs_; have a2_ : z7 ≤ k_ ∧ k_ < z8 := (by first | exact hs_ | exact hs_.1 | exact Or.elim hs_ (fun q_ => q_.1) (fun q_ => q_.2) | exact Or.elim hs_ (fun q_ => q_.2) (fun q_ => q_.1)); have oz1_ := Oz1.out; have oz2_ := Oz2.out; have oz3_ := Oz3.out; have oz4_ := Oz4.out; have oz5_ := Oz5.out; have oz6_ := Oz6.out; have oz7_ := Oz7.out; have oz8_ := Oz8.out; have oz9_ := Oz9.out; have oz10_ := Oz10.out; omega)); replace F12_0 := Aside0.mk (Kd.R_reok rfl hf0 (fun k_ e_ => F12_0.out.1 k_ e_)); replace HB := Aside0.mk hb; replace HZ := Aside0.mk (Nat.le_trans HZ.out hk.1); clear hb hk hf0; (try clear hx4_0 hx4_1 hx4_2); (try clear hx11_0 hx11_1 hx11_2); obtain ⟨hx4_0, hx4_1, hx4_2⟩ := XW.Xc3 BK4; obtain ⟨hx11_0, hx11_1, hx11_2⟩ := XW.Xc3 BK11)
        | ((with_reducible refine gate_callee (f := 23) rfl ?_); refine XW.Xgo 92 Try.func23 #[.slice A12_0 n5.length c12_0, .int .i64 1] ?_ (hargs := by (try simp only [List.map_toArray, List.map_cons, List.map_nil]); first | (rw [show n5.length = r0.length from (Kd.R_reads' F12_0.out).1.symm]; done) | (rw [show n5.length = r0.length from (Kd.R_reads' F12_0.out).1.symm]; rfl)); (with_reducible refine (laws_heldIntS.calls k A12_0 c12_0 n5 1 n4 _ (Kd.R_reads' F12_0.out).2.2 (by rw [show n5.length = r0.length from (Kd.R_reads' F12_0.out).1.symm]; exact (Kd.R_reads' F12_0.out).2.1) HE12.out).mono ?_); rintro e w23 ⟨rfl, hd_⟩; refine ⟨_, rfl, ?_⟩; have hb := hd_.below; clear hd_; replace F7_0 := Aside0.mk (Kd.R_below F7_0.out hb); replace F12_0 := Aside0.mk (Kd.R_below F12_0.out hb); replace BK4 := Aside0.mk (blk_below BK4.out hb); replace BK11 := Aside0.mk (blk_below BK11.out hb); replace HB := Aside0.mk (below_step HB.out hb); replace HZ := Aside0.mk (Nat.le_trans HZ.out hb.size); clear hb; (try clear hx4_0 hx4_1 hx4_2); (try clear hx11_0 hx11_1 hx11_2); obtain ⟨hx4_0, hx4_1, hx4_2⟩ := XW.Xc3 BK4; obtain ⟨hx11_0, hx11_1, hx11_2⟩ := XW.Xc3 BK11))
      replace F7_0 := Aside0.mk (Kd.R_drew F7_0.out)
      replace F12_0 := Aside0.mk (Kd.R_drew F12_0.out)
      replace BK4 := Aside0.mk (blk_drew BK4.out)
      replace BK11 := Aside0.mk (blk_drew BK11.out)
      (try clear hx4_0 hx4_1 hx4_2)
      (try clear hx11_0 hx11_1 hx11_2)
      replace HZ := Aside0.mk (show z10 ≤ w23.drew.heap.size from HZ.out)
      replace HB := Aside0.mk (below_drew1 HB.out)
      refine start_ (n := 11) (S := fun w' => w'.cell? ⟨g4, 0, none⟩ = some (.int .i64 a1_0) ∧ w'.cell? ⟨g4, 1, none⟩ = some (.int .i64 a1_1) ∧ w'.cell? ⟨g4, 2, none⟩ = some (.slice A1_2 l1_2.length c1_2)) (ds := []) #[false, false, false, false, false, false, false, false, false, false, false] (by kernel_rfl) rfl rfl ⟨(blk_cell BK4.out 0).trans rfl, (blk_cell BK4.out 1).trans rfl, (blk_cell BK4.out 2).trans rfl⟩ (fun hHeld => ?_)
      generalize w23.drew = w24 at F7_0 F12_0 BK4 BK11 HB HZ hHeld ⊢
      refine pure_ (i := 0) (N := some 99) (v := ?_) (a' := ?_) #[true, false, false, false, false, false, false, false, false, false, false] rfl rfl (by kernel_rfl) (fun _ _ _ h => h) (Or.inl ⟨by rfl, ?_⟩) ?_ ?_
      rotate_left
      · intro w'
        go_simp
        with_reducible rfl
      rotate_left
      · simp only [XW.q0, XW.q1, XW.q2, i64_w, i32_w]
        rfl
      refine take_ (i := 2) (N := some 101) (v := ?_) (a' := ?_) #[true, false, true, false, false, false, false, false, false, false, false] rfl rfl (by kernel_rfl) (fun _ _ _ h => h) (Or.inl ⟨by rfl, ?_⟩) hHeld ?_ ?_
      rotate_left
      · rintro w' ⟨s0_, s1_, s2_⟩
        go_simp
        with_reducible rfl
      rotate_left
      · simp only [XW.q0, XW.q1, XW.q2, i64_w, i32_w]
        rfl
      refine pure_ (i := 4) (N := some 103) (v := ?_) (a' := ?_) #[true, false, true, false, true, false, false, false, false, false, false] rfl rfl (by kernel_rfl) (fun _ _ _ h => h) (Or.inl ⟨by rfl, ?_⟩) ?_ ?_
      rotate_left
      · intro w'
        go_simp
        with_reducible rfl
      rotate_left
      · simp only [XW.q0, XW.q1, XW.q2, i64_w, i32_w]
        rfl
      refine one_ (i := 1) (N := some 100) #[true, true, true, false, true, false, false, false, false, false, false] rfl rfl (by kernel_rfl) (by decide) (fun K hK => ?_)
      refine goes_ Try.func26 (by kernel_rfl) rfl #[.slice A0 l0.length c0] (by rfl) rfl rfl (by (try simp only [List.map_toArray, List.map_cons, List.map_nil]); first | done | rfl | (simp only [List.length_drop, List.length_take]; rfl)) ?_
      (with_reducible refine (laws_toRuleS.calls k A0 c0 l0 x0 _ (XW.Xc HC0) hc0 HE2.out).mono ?_)
      rintro e w25 ⟨v25_0, rfl, hf0, hb⟩
      refine ⟨_, rfl, ?_⟩
      replace F7_0 := Aside0.mk (Kd.R_below F7_0.out hb)
      replace F12_0 := Aside0.mk (Kd.R_below F12_0.out hb)
      replace BK4 := Aside0.mk (blk_below BK4.out hb)
      replace BK11 := Aside0.mk (blk_below BK11.out hb)
      obtain ⟨z11, hz11⟩ : ∃ z_, z_ = w25.heap.size := ⟨_, rfl⟩
      have Oz11 := Aside0.mk (show z10 ≤ z11 from by have h1_ := HZ.out; have h2_ := hb.size; omega)
      have F25_0 := Aside0.mk (HL.S_new hf0 HZ.out (below_size HB.out) hz11)
      replace HB := Aside0.mk (below_step HB.out hb)
      replace HZ := Aside0.mk (Nat.le_of_eq hz11)
      clear hb
      clear hf0 hz11
      obtain ⟨A25_0, c25_0, e_⟩ := Kd.S_slice F25_0.out
      subst e_
      (try clear hx4_0 hx4_1 hx4_2)
      (try clear hx11_0 hx11_1 hx11_2)
      obtain ⟨hx4_0, hx4_1, hx4_2⟩ := XW.Xc3 BK4
      obtain ⟨hx11_0, hx11_1, hx11_2⟩ := XW.Xc3 BK11
      refine hK.out _ _ ⟨hx4_0, hx4_1, hx4_2⟩ (fun hHeld => ?_)
      clear hK K
      refine XW.Xno ?_
      refine one_ (i := 3) (N := some 102) #[true, true, true, true, true, false, false, false, false, false, false] rfl rfl (by kernel_rfl) (by decide) (fun K hK => ?_)
      refine goes_ Try.func35 (by kernel_rfl) rfl #[.agg #[.int .i64 a1_0, .int .i64 a1_1, .slice A1_2 l1_2.length c1_2]] (by rfl) rfl rfl (by (try simp only [List.map_toArray, List.map_cons, List.map_nil]); first | done | rfl | (simp only [List.length_drop, List.length_take]; rfl)) ?_
      (with_reducible refine (laws_toDoc.calls k a1_0 a1_1 A1_2 c1_2 l1_2 x1 x2 x3 _ (XW.Xc HC1_2) hc1_2 HE3.out).mono ?_)
      rintro e w26 ⟨v26_0, rfl, hf0, hb⟩
      refine ⟨_, rfl, ?_⟩
      replace F7_0 := Aside0.mk (Kd.R_below F7_0.out hb)
      replace F12_0 := Aside0.mk (Kd.R_below F12_0.out hb)
      replace F25_0 := Aside0.mk (Kd.S_below F25_0.out hb)
      replace BK4 := Aside0.mk (blk_below BK4.out hb)
      replace BK11 := Aside0.mk (blk_below BK11.out hb)
      obtain ⟨z12, hz12⟩ : ∃ z_, z_ = w26.heap.size := ⟨_, rfl⟩
      have Oz12 := Aside0.mk (show z11 ≤ z12 from by have h1_ := HZ.out; have h2_ := hb.size; omega)
      have F26_0 := Aside0.mk (HL.S_new hf0 HZ.out (below_size HB.out) hz12)
      replace HB := Aside0.mk (below_step HB.out hb)
      replace HZ := Aside0.mk (Nat.le_of_eq hz12)
      clear hb
      clear hf0 hz12
      obtain ⟨A26_0, c26_0, e_⟩ := Kd.S_slice F26_0.out
      subst e_
      (try clear hx4_0 hx4_1 hx4_2)
      (try clear hx11_0 hx11_1 hx11_2)
      obtain ⟨hx4_0, hx4_1, hx4_2⟩ := XW.Xc3 BK4
      obtain ⟨hx11_0, hx11_1, hx11_2⟩ := XW.Xc3 BK11
      refine hK.out _ _ ⟨hx4_0, hx4_1, hx4_2⟩ (fun hHeld => ?_)
      clear hK K
      refine XW.Xno ?_
      refine one_ (i := 5) (N := some 104) #[true, true, true, true, true, true, false, false, false, false, false] rfl rfl (by kernel_rfl) (by decide) (fun K hK => ?_)
      refine goes_ Try.func36 (by kernel_rfl) rfl #[.slice A25_0 x0.length c25_0, .agg #[.int .i64 x1, .int .i64 x2, .slice A26_0 x3.length c26_0], .int .i64 a2] (by rfl) rfl rfl (by (try simp only [List.map_toArray, List.map_cons, List.map_nil]); first | done | rfl | (simp only [List.length_drop, List.length_take]; rfl)) ?_
      (with_reducible refine (impl_MayInsert.calls k A25_0 c25_0 x0 x1 x2 A26_0 c26_0 x3 a2 r0 r1 _ (kRS_C (Kd.S_reads' F25_0.out).2.2) (Kd.S_reads' F25_0.out).2.1 (Kd.S_reads' F26_0.out).2.2 (Kd.S_reads' F26_0.out).2.1 HE5.out).mono ?_)
      rintro e w27 ⟨v27_0, rfl, hf0, hb⟩
      refine ⟨_, rfl, ?_⟩
      replace F7_0 := Aside0.mk (Kd.R_below F7_0.out hb)
      replace F12_0 := Aside0.mk (Kd.R_below F12_0.out hb)
      replace BK4 := Aside0.mk (blk_below BK4.out hb)
      replace BK11 := Aside0.mk (blk_below BK11.out hb)
      obtain ⟨z13, hz13⟩ : ∃ z_, z_ = w27.heap.size := ⟨_, rfl⟩
      have Oz13 := Aside0.mk (show z12 ≤ z13 from by have h1_ := HZ.out; have h2_ := hb.size; omega)
      have F27_0 := Aside0.mk (HL.R_new hf0 HZ.out (below_size HB.out) hz13)
      replace HB := Aside0.mk (below_step HB.out hb)
      replace HZ := Aside0.mk (Nat.le_of_eq hz13)
      clear hb
      clear hf0 hz13
      obtain ⟨A27_0, c27_0, e_⟩ := Kd.R_slice F27_0.out
      subst e_
      clear F25_0 F26_0
      (try clear hx4_0 hx4_1 hx4_2)
      (try clear hx11_0 hx11_1 hx11_2)
      obtain ⟨hx4_0, hx4_1, hx4_2⟩ := XW.Xc3 BK4
      obtain ⟨hx11_0, hx11_1, hx11_2⟩ := XW.Xc3 BK11
      refine hK.out _ _ ⟨hx4_0, hx4_1, hx4_2⟩ (fun hHeld => ?_)
      clear hK K
      refine XW.Xno ?_
      refine pure_ (i := 6) (N := some 98) (v := ?_) (a' := ?_) #[true, true, true, true, true, true, true, false, false, false, false] rfl rfl (by kernel_rfl) (fun _ _ _ h => h) (Or.inl ⟨by rfl, ?_⟩) ?_ ?_
      rotate_left
      · intro w'
        go_simp
        with_reducible rfl
      rotate_left
      · simp only [XW.q0, XW.q1, XW.q2, i64_w, i32_w]
        rfl
      refine pure_ (i := 7) (N := some 105) (v := ?_) (a' := ?_) #[true, true, true, true, true, true, true, true, false, false, false] rfl rfl (by kernel_rfl) (fun _ _ _ h => h) (Or.inl ⟨by rfl, ?_⟩) ?_ ?_
      rotate_left
      · intro w'
        go_simp
        with_reducible rfl
      rotate_left
      · simp only [XW.q0, XW.q1, XW.q2, i64_w, i32_w]
        rfl
      refine pure_ (i := 8) (N := some 106) (v := ?_) (a' := ?_) #[true, true, true, true, true, true, true, true, true, false, false] rfl rfl (by kernel_rfl) (fun _ _ _ h => h) (Or.inl ⟨by rfl, ?_⟩) ?_ ?_
      rotate_left
      · intro w'
        go_simp
        with_reducible rfl
      rotate_left
      · simp only [XW.q0, XW.q1, XW.q2, i64_w, i32_w]
        rfl
      refine pure_ (i := 9) (N := some 17) (v := ?_) (a' := ?_) #[true, true, true, true, true, true, true, true, true, true, false] rfl rfl (by kernel_rfl) (fun _ _ _ h => h) (Or.inl ⟨by rfl, ?_⟩) ?_ ?_
      rotate_left
      · intro w'
        go_simp
        with_reducible rfl
      rotate_left
      · simp only [XW.q0, XW.q1, XW.q2, i64_w, i32_w]
        rfl
      refine pure_ (i := 10) (N := some 18) (v := ?_) (a' := ?_) #[true, true, true, true, true, true, true, true, true, true, true] rfl rfl (by kernel_rfl) (fun _ _ _ h => h) (Or.inl ⟨by rfl, ?_⟩) ?_ ?_
      rotate_left
      · intro w'
        go_simp
        with_reducible rfl
      rotate_left
      · simp only [XW.q0, XW.q1, XW.q2, i64_w, i32_w]
        rfl
      refine done_ (by kernel_rfl) ?_
      go_wp2_with (first
        | ((with_reducible refine gate_callee (f := 21) rfl ?_); refine XW.Xgo 109 Try.func21 #[.slice A27_0 r0.length c27_0, .slice A7_0 r0.length c7_0] ?_; (with_reducible refine (laws_eqIntS.calls k A27_0 c27_0 r0 A7_0 c7_0 r0 true _ (Kd.R_reads' F27_0.out).2.2 (Kd.R_reads' F27_0.out).2.1 (Kd.R_reads' F7_0.out).2.2 (Kd.R_reads' F7_0.out).2.1 HE6.out).mono ?_); rintro e w28 ⟨rfl, hd_⟩; refine ⟨_, rfl, ?_⟩; have hb := hd_.below; clear hd_; replace F12_0 := Aside0.mk (Kd.R_below F12_0.out hb); replace BK4 := Aside0.mk (blk_below BK4.out hb); replace BK11 := Aside0.mk (blk_below BK11.out hb); replace HB := Aside0.mk (below_step HB.out hb); replace HZ := Aside0.mk (Nat.le_trans HZ.out hb.size); clear hb; clear F7_0 F27_0; (try clear hx4_0 hx4_1 hx4_2); (try clear hx11_0 hx11_1 hx11_2); obtain ⟨hx4_0, hx4_1, hx4_2⟩ := XW.Xc3 BK4; obtain ⟨hx11_0, hx11_1, hx11_2⟩ := XW.Xc3 BK11)
        | ((with_reducible refine gate_callee (f := 23) rfl ?_); refine XW.Xgo 118 Try.func23 #[.slice A12_0 n5.length c12_0, .int .i64 1] ?_ (hargs := by (try simp only [List.map_toArray, List.map_cons, List.map_nil]); first | (rw [show n5.length = r0.length from (Kd.R_reads' F12_0.out).1.symm]; done) | (rw [show n5.length = r0.length from (Kd.R_reads' F12_0.out).1.symm]; rfl)); (with_reducible refine (laws_heldIntS.calls k A12_0 c12_0 n5 1 n4 _ (Kd.R_reads' F12_0.out).2.2 (by rw [show n5.length = r0.length from (Kd.R_reads' F12_0.out).1.symm]; exact (Kd.R_reads' F12_0.out).2.1) HE12.out).mono ?_); rintro e w29 ⟨rfl, hd_⟩; refine ⟨_, rfl, ?_⟩; have hb := hd_.below; clear hd_; replace BK4 := Aside0.mk (blk_below BK4.out hb); replace BK11 := Aside0.mk (blk_below BK11.out hb); replace HB := Aside0.mk (below_step HB.out hb); replace HZ := Aside0.mk (Nat.le_trans HZ.out hb.size); clear hb; clear F12_0; (try clear hx4_0 hx4_1 hx4_2); (try clear hx11_0 hx11_1 hx11_2); obtain ⟨hx4_0, hx4_1, hx4_2⟩ := XW.Xc3 BK4; obtain ⟨hx11_0, hx11_1, hx11_2⟩ := XW.Xc3 BK11))
      go_ret
      exact ⟨by first | rfl | (simp; done) | (simp [*]; done), HB.out⟩
end Go.Proofs.Ythkbgbkglgmpoaa.XA
end
