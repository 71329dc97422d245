/- What the marks of a row of rules come to: each rule's name, leaf and terms are numbered, in place. Conditions: the premises. -/
import Derived.Test.YthkbgbkglgmpoaaYSchemaLines9
import Derived.Test.YthkbgbkglgmpoaaYSchemaLinesToRuleS
import Derived.Test.YthkbgbkglgmpoaaYSchemaLinesMarkTermS
namespace Go.Proofs.Ythkbgbkglgmpoaa.XA
set_option linter.unusedVariables false
open Go.RowKit Go.Proofs.YthkbgbkglgmpoaaW.PrintWords Go.Proofs.YthkbgbkglgmpoaaW.PrintLast Go.Proofs.YthkbgbkglgmpoaaW.PrintMore
def laws_markRuleS.l0 : Nat → List S97 → Int → Int → Option (Int × List S97)
  | 0, _, _, _ => none
  | k + 1, xs_, n_, i_ => if i_ < (xs_.length : Int) then (if 0 ≤ i_ then ((laws_markText.f k n_).bind fun t_ => ((laws_markTermS.f k (rd_T97 xs_ i_).f2 (wrap64 ((wrap64 (n_ + 1)) + 1))).bind fun p_ => laws_markRuleS.l0 k (xs_.set i_.toNat ⟨t_, Int.tmod (wrap64 (n_ + 1)) 3 == 0, p_.2⟩) p_.1 (wrap64 (i_ + 1)))) else none) else some (n_, xs_)
def laws_markRuleS.f (k : Nat) (l0 : List S97) (a1 : Int) : Option (Int × List S97) := laws_markRuleS.l0 k l0 a1 0
set_option maxHeartbeats 8000000 in
set_option maxRecDepth 100000 in
theorem laws_markRuleS.calls (k : Nat) (P_ : Nat → Prop) (u_ : Value) (l0 : List S97) (a1 r1 : Int) (r2 : List S97) (w0 w : World) (hB : Below w0.heap.size w0 w) (ho : Kd.S kRS 97 w w0.heap.size P_ u_ l0) (h : laws_markRuleS.f k l0 a1 = some (r1, r2)) :
    Calls Try.prog 30 #[u_, .int .i64 a1] w fun e w' => e = .returned (.int .i64 r1) ∧ Kd.S kRS 97 w' w0.heap.size P_ u_ r2 ∧ Below w0.heap.size w0 w' ∧ Kept w w' P_ := by
  have huN := Try.underlying97
  obtain ⟨A, c0, rfl⟩ := Kd.S_slice ho
  obtain ⟨N, hN⟩ : ∃ N, N = l0.length := ⟨_, rfl⟩
  rw [← hN] at ho ⊢
  have HN := Aside0.mk hN.symm
  have HS := Aside0.mk ho
  have HB := Aside0.mk hB
  have HK := Aside0.mk (Kept.refl w P_)
  have H' := Aside0.mk (show laws_markRuleS.l0 k l0 a1 0 = some (r1, r2) from h)
  clear ho hB h hN
  go_enter Try.func30, Try.ntmps30
  go_wp2
  go_loopg [1, 5] k (fun kq v1 v5 w' => ∃ (n_ i_ : Int) (xs_ : List S97), v1 = .int .i64 n_ ∧ v5 = .int .i64 i_ ∧ Aside0 (laws_markRuleS.l0 kq xs_ n_ i_ = some (r1, r2)) ∧ Aside0 (kq ≤ k) ∧ Aside0 (xs_.length = N) ∧ Aside0 (Kd.S kRS 97 w' w0.heap.size P_ (.slice A N c0) xs_) ∧ Aside0 (Below w0.heap.size w0 w') ∧ Aside0 (Kept w w' P_))
  case atStart => exact ⟨a1, 0, l0, by first | rfl | (simp; done), by first | rfl | (simp; done), H', ⟨Nat.le_refl _⟩, HN, HS, HB, HK⟩
  case round =>
    clear H' HS HB HK HN
    obtain ⟨n_, i_, xs_, rfl, rfl, HA, HK1, HL, HS, HB, HK⟩ := hrel
    cases gk with
    | zero => cases HA.out
    | succ k1 =>
      have H := HA.out
      clear HA
      simp only [laws_markRuleS.l0] at H
      obtain ⟨c1, H⟩ | ⟨c1, H⟩ := XW.Xiu H
      · obtain ⟨c2, H⟩ := XW.Xif H
        obtain ⟨t_, HT, H⟩ := XW.Xbi H
        (try dsimp only at H)
        obtain ⟨⟨n2, ts'⟩, HI, H⟩ := XW.Xbi H
        (try dsimp only at H)
        have H' := Aside0.mk H
        clear H
        have hL := HL.out
        have hp : 0 < xs_.length := by omega
        obtain ⟨g, cap, e_, hg, _, _⟩ := Kd.S_form HS.out hp
        injection e_ with e1 e2 e3
        subst e1 e3
        clear e2
        have c1' : i_ < (N : Int) := by omega
        obtain ⟨oki, ce, hcl, hM, _, _, hoki, hH⟩ := Kd.S_elem HS.out z97 i_ c2 c1'
        obtain ⟨v4, rfl, hr⟩ := kRS_openM hM
        replace hr : Kd.S k78 78 _ w0.heap.size oki v4 (rd_T97 xs_ i_).f2 := hr
        obtain ⟨A4, c4, rfl⟩ := Kd.S_slice hr
        have M0 := Aside0.mk (show XR.MT kRS 97 k78 78 w w0 _ P_ oki g N c0 xs_ i_ [.string (rd_T97 xs_ i_).f0, .bool (rd_T97 xs_ i_).f1, (.slice A4 (rd_T97 xs_ i_).f2.length c4)] (.slice A4 (rd_T97 xs_ i_).f2.length c4) (rd_T97 xs_ i_).f2 from ⟨hH, hr, fun k hk => (hoki k hk).2, (Kd.S_R HS.out).1 g (by simp [Value.ownBlock]), hcl, c2, c1', HK.out, HB.out, hg⟩)
        have b0 : decide (i_ < (N : Int)) = true := decide_eq_true c1'
        have b1 : decide (0 ≤ i_) = true := decide_eq_true c2
        have b2 : decide (i_ < 0) = false := decide_eq_false (by omega)
        have p1 := eq_true c2
        have p2 := eq_true c1'
        clear c1 hp hcl hM hoki hH hr HS HB HK hL hg c1' c2
        obtain ⟨⟨hx0, hx1, hx2⟩, hf0, hf1, hf2⟩ := M0.out.three rfl
        go_wp2_with (first
          | ((with_reducible refine gate_callee (f := 72) rfl ?_); refine XW.Xgo 15 Try.func72 #[.int .i64 n_] ?_; (with_reducible refine (laws_markText.calls k1 n_ t_ _ HT.out).mono ?_); rintro e wd ⟨rfl, hb⟩; refine ⟨_, rfl, ?_⟩; have M1 := Aside0.mk (M0.out.over hb); clear hb hx0 hx1 hx2 hf0 hf1 hf2 M0; obtain ⟨⟨hx0, hx1, hx2⟩, hf0, hf1, hf2⟩ := M1.out.three rfl)
          | ((with_reducible refine gate_store (t := 9) (p := 17) rfl ?_); refine XR.Xst 9 17 ⟨g, i_.toNat * 3, none⟩ (.string t_) ?_; intro we hw; have M2 := Aside0.mk (M1.out.put 0 (by decide) (.string t_) rfl (off := i_.toNat * 3) rfl hw); clear hw hx0 hx1 hx2 hf0 hf1 hf2 M1; obtain ⟨⟨hx0, hx1, hx2⟩, hf0, hf1, hf2⟩ := M2.out.three rfl)
          | ((with_reducible refine gate_store (t := 4) (p := 26) rfl ?_); refine XR.Xst 4 26 ⟨g, i_.toNat * 3 + 1, none⟩ (.bool (Int.tmod (wrap64 (n_ + 1)) 3 == 0)) ?_; intro wf hw; have M3 := Aside0.mk (M2.out.put 1 (by decide) (.bool (Int.tmod (wrap64 (n_ + 1)) 3 == 0)) rfl (off := i_.toNat * 3 + 1) rfl hw); clear hw hx0 hx1 hx2 hf0 hf1 hf2 M2; obtain ⟨⟨hx0, hx1, hx2⟩, hf0, hf1, hf2⟩ := M3.out.three rfl)
          | ((with_reducible refine gate_callee (f := 14) rfl ?_); refine XW.Xgo 35 Try.func14 #[.slice A4 (rd_T97 xs_ i_).f2.length c4, .int .i64 (wrap64 ((wrap64 (n_ + 1)) + 1))] ?_; (with_reducible refine (laws_markTermS.calls k1 (fun k_ => oki k_) _ (rd_T97 xs_ i_).f2 (wrap64 ((wrap64 (n_ + 1)) + 1)) n2 ts' w0 _ M3.out.below M3.out.r HI.out).mono ?_); rintro e wg ⟨rfl, hr, hb, hk⟩; refine ⟨_, rfl, ?_⟩; have M4 := Aside0.mk (M3.out.kids hr hb hk); clear hr hb hk hx0 hx1 hx2 hf0 hf1 hf2 M3))
        go_roundg k1
        case measure => have := HK1.out; omega
        case rel => exact ⟨n2, wrap64 (i_ + 1), _, by first | rfl | (simp; done) | (simp [*]; done), by first | rfl | (simp; done) | (simp [*]; done), H', ⟨by have := HK1.out; omega⟩, ⟨by rw [List.length_set]; exact HL.out⟩, ⟨Kd.H_back M4.out.h (kRS_mkM _ _ _ ⟨t_, Int.tmod (wrap64 (n_ + 1)) 3 == 0, ts'⟩ M4.out.r) (fun _ hk => hk)⟩, ⟨M4.out.below⟩, ⟨M4.out.kept⟩⟩
      · simp only [Option.some.injEq, Prod.mk.injEq] at H
        obtain ⟨rfl, rfl⟩ := H
        have hL := HL.out
        have b0 : decide (i_ < (N : Int)) = false := decide_eq_false (by omega)
        clear hL c1
        go_wp2
        go_ret
        exact ⟨by first | rfl | (simp; done) | (simp [*]; done), HS.out, HB.out, HK.out⟩
end Go.Proofs.Ythkbgbkglgmpoaa.XA
