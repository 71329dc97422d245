/- What the marks of a row of terms come to: each term's kinds and its number are numbered, in place. Conditions: the premises. -/
import Derived.Test.YthkbgbkglgmpoaaYSchemaLines9
import Derived.Test.YthkbgbkglgmpoaaYSchemaLines4
import Derived.Test.YthkbgbkglgmpoaaMark
namespace Go.Proofs.Ythkbgbkglgmpoaa.XA
set_option linter.unusedVariables false
open Go.RowKit Go.Proofs.YthkbgbkglgmpoaaW.PrintWords Go.Proofs.YthkbgbkglgmpoaaW.PrintLast Go.Proofs.YthkbgbkglgmpoaaW.PrintMore
def laws_markTermS.l0 : Nat → List S78 → Int → Int → Option (Int × List S78)
  | 0, _, _, _ => none
  | k + 1, xs_, n_, i_ => if i_ < (xs_.length : Int) then (if 0 ≤ i_ then ((laws_markIntS.f k (rd_T78 xs_ i_).f0 n_).bind fun p_ => laws_markTermS.l0 k (xs_.set i_.toNat ⟨p_.2, p_.1⟩) (wrap64 (p_.1 + 1)) (wrap64 (i_ + 1))) else none) else some (n_, xs_)
def laws_markTermS.f (k : Nat) (l0 : List S78) (a1 : Int) : Option (Int × List S78) := laws_markTermS.l0 k l0 a1 0
theorem MS_two {α : Type} {d : Kd α} {e : Nat} {ws w0 w : World} {g n cap : Nat} {P oki : Nat → Prop} {xs : List α} {i : Int} {v4 : Value} {ks : List Int} {a b : Value} (m : XR.MS d e ws w0 w P oki g n cap xs i [a, b] v4 ks) (h5 : d.sz = 2) :
    (w.cell? ⟨g, i.toNat * 2, none⟩ = some a ∧ w.cell? ⟨g, i.toNat * 2 + 1, none⟩ = some b) ∧ (w.frozen? ⟨g, i.toNat * 2, none⟩ = false ∧ w.frozen? ⟨g, i.toNat * 2 + 1, none⟩ = false) := by
  have hc := m.cell
  have hf := m.thaw
  rw [h5] at hc hf
  exact ⟨⟨hc 0 rfl, hc 1 rfl⟩, hf 0, hf 1⟩
set_option maxHeartbeats 8000000 in
set_option maxRecDepth 100000 in
theorem laws_markTermS.calls (k : Nat) (P_ : Nat → Prop) (u_ : Value) (l0 : List S78) (a1 r1 : Int) (r2 : List S78) (w0 w : World) (hB : Below w0.heap.size w0 w) (ho : Kd.S k78 78 w w0.heap.size P_ u_ l0) (h : laws_markTermS.f k l0 a1 = some (r1, r2)) :
    Calls Try.prog 14 #[u_, .int .i64 a1] w fun e w' => e = .returned (.int .i64 r1) ∧ Kd.S k78 78 w' w0.heap.size P_ u_ r2 ∧ Below w0.heap.size w0 w' ∧ Kept w w' P_ := by
  have huN := Try.underlying78
  obtain ⟨A, c0, rfl⟩ := Kd.S_slice ho
  obtain ⟨N, hN⟩ : ∃ N, N = l0.length := ⟨_, rfl⟩
  rw [← hN] at ho ⊢
  have HN := Aside0.mk hN.symm
  have HS := Aside0.mk ho
  have HB := Aside0.mk hB
  have HK := Aside0.mk (Kept.refl w P_)
  have H' := Aside0.mk (show laws_markTermS.l0 k l0 a1 0 = some (r1, r2) from h)
  clear ho hB h hN
  go_enter Try.func14, Try.ntmps14
  go_wp2
  go_loopg [1, 5] k (fun kq v1 v5 w' => ∃ (n_ i_ : Int) (xs_ : List S78), v1 = .int .i64 n_ ∧ v5 = .int .i64 i_ ∧ Aside0 (laws_markTermS.l0 kq xs_ n_ i_ = some (r1, r2)) ∧ Aside0 (kq ≤ k) ∧ Aside0 (xs_.length = N) ∧ Aside0 (Kd.S k78 78 w' w0.heap.size P_ (.slice A N c0) xs_) ∧ Aside0 (Below w0.heap.size w0 w') ∧ Aside0 (Kept w w' P_))
  case atStart => exact ⟨a1, 0, l0, by first | rfl | (simp; done), by first | rfl | (simp; done), H', ⟨Nat.le_refl _⟩, HN, HS, HB, HK⟩
  case round =>
    clear H' HS HB HK HN
    obtain ⟨n_, i_, xs_, rfl, rfl, HA, HK1, HL, HS, HB, HK⟩ := hrel
    cases gk with
    | zero => cases HA.out
    | succ k1 =>
      have H := HA.out
      clear HA
      simp only [laws_markTermS.l0] at H
      obtain ⟨c1, H⟩ | ⟨c1, H⟩ := XW.Xiu H
      · obtain ⟨c2, H⟩ := XW.Xif H
        obtain ⟨⟨n2, ks'⟩, HI, H⟩ := XW.Xbi H
        (try dsimp only at H)
        have H' := Aside0.mk H
        clear H
        have hL := HL.out
        have hp : 0 < xs_.length := by omega
        obtain ⟨g, cap, e_, hg, _, _⟩ := Kd.S_form HS.out hp
        injection e_ with e1 e2 e3
        subst e1 e3
        clear e2
        have c1' : i_ < (N : Int) := by omega
        obtain ⟨oki, ce, hcl, hM, _, _, hoki, hH⟩ := Kd.S_elem HS.out z78 i_ c2 c1'
        obtain ⟨v4, rfl, hr⟩ := k78_openM hM
        replace hr : (Kd.int .i64).R 3 _ w0.heap.size oki v4 (rd_T78 xs_ i_).f0 := hr
        obtain ⟨A4, c4, rfl⟩ := Kd.R_slice hr
        have M0 := Aside0.mk (show XR.MS k78 78 w w0 _ P_ oki g N c0 xs_ i_ [(.slice A4 (rd_T78 xs_ i_).f0.length c4), .int .i64 (rd_T78 xs_ i_).f1] (.slice A4 (rd_T78 xs_ i_).f0.length c4) (rd_T78 xs_ i_).f0 from ⟨hH, hr, fun k hk => (hoki k hk).2, (Kd.S_R HS.out).1 g (by simp [Value.ownBlock]), hcl, c2, c1', HK.out, HB.out, hg⟩)
        have b0 : decide (i_ < (N : Int)) = true := decide_eq_true c1'
        have b1 : decide (0 ≤ i_) = true := decide_eq_true c2
        have b2 : decide (i_ < 0) = false := decide_eq_false (by omega)
        have p1 := eq_true c2
        have p2 := eq_true c1'
        clear c1 hp hcl hM hoki hH hr HS HB HK hL hg c1' c2
        obtain ⟨⟨hx0, hx1⟩, hf0, hf1⟩ := MS_two M0.out rfl
        go_wp2_with (first
          | ((with_reducible refine gate_callee (f := 22) rfl ?_); refine XW.Xgo 18 Try.func22 #[.slice A4 (rd_T78 xs_ i_).f0.length c4, .int .i64 n_] ?_; (with_reducible refine (laws_markIntS.calls k1 (fun k_ => oki k_) _ (rd_T78 xs_ i_).f0 n_ n2 ks' w0 _ M0.out.below M0.out.r HI.out).mono ?_); rintro e wf ⟨rfl, hr, hb, hk⟩; refine ⟨_, rfl, ?_⟩; have M1 := Aside0.mk (M0.out.kids hr hb hk); clear hr hb hk hx0 hx1 hf0 hf1 M0; obtain ⟨⟨hx0, hx1⟩, hf0, hf1⟩ := MS_two M1.out rfl)
          | ((with_reducible refine gate_store (t := 3) (p := 23) rfl ?_); refine XR.Xst 3 23 ⟨g, i_.toNat * 2 + 1, none⟩ (.int .i64 n2) ?_; intro wa hw; have M2 := Aside0.mk (M1.out.put 1 (by decide) (.int .i64 n2) rfl (off := i_.toNat * 2 + 1) rfl hw); clear hw hx0 hx1 hf0 hf1 M1))
        go_roundg k1
        case measure => have := HK1.out; omega
        case rel => exact ⟨wrap64 (n2 + 1), wrap64 (i_ + 1), _, by first | rfl | (simp; done) | (simp [*]; done), by first | rfl | (simp; done) | (simp [*]; done), H', ⟨by have := HK1.out; omega⟩, ⟨by rw [List.length_set]; exact HL.out⟩, ⟨Kd.H_back M2.out.h (k78_mkM _ _ _ ⟨ks', n2⟩ M2.out.r) (fun _ hk => hk)⟩, ⟨M2.out.below⟩, ⟨M2.out.kept⟩⟩
      · simp only [Option.some.injEq, Prod.mk.injEq] at H
        obtain ⟨rfl, rfl⟩ := H
        have hL := HL.out
        have b0 : decide (i_ < (N : Int)) = false := decide_eq_false (by omega)
        clear hL c1
        go_wp2
        go_ret
        exact ⟨by first | rfl | (simp; done) | (simp [*]; done), HS.out, HB.out, HK.out⟩
end Go.Proofs.Ythkbgbkglgmpoaa.XA
