/- What the marks of a document's nodes come to: each node's fields and kids are numbered, in place. Conditions: the premises. -/
import Derived.Test.YtocelbmpnjnnbaaYPutHold18
import Derived.Test.YtocelbmpnjnnbaaYPutHold18
import Derived.Test.YtocelbmpnjnnbaaMark
namespace Go.Proofs.Ytocelbmpnjnnbaa.XA
set_option linter.unusedVariables false
open Go.RowKit Go.Proofs.YtocelbmpnjnnbaaW.PrintWords Go.Proofs.YtocelbmpnjnnbaaW.PrintLast Go.Proofs.YtocelbmpnjnnbaaW.PrintMore
def laws_markNodeS.l0 : Nat → List S64 → Int → Int → Option (Int × List S64)
  | 0, _, _, _ => none
  | k + 1, xs_, n_, i_ => if i_ < (xs_.length : Int) then (if 0 ≤ i_ then ((laws_markText.f k (wrap64 ((wrap64 ((wrap64 (n_ + 1)) + 1)) + 1))).bind fun t_ => ((laws_markIntS.f k (rd_T64 xs_ i_).f4 (wrap64 ((wrap64 ((wrap64 ((wrap64 (n_ + 1)) + 1)) + 1)) + 1))).bind fun p_ => laws_markNodeS.l0 k (xs_.set i_.toNat ⟨n_, (wrap64 (n_ + 1)), (wrap64 ((wrap64 (n_ + 1)) + 1)), t_, p_.2⟩) p_.1 (wrap64 (i_ + 1)))) else none) else some (n_, xs_)
def laws_markNodeS.f (k : Nat) (l0 : List S64) (a1 : Int) : Option (Int × List S64) := laws_markNodeS.l0 k l0 a1 0
set_option maxHeartbeats 8000000 in
set_option maxRecDepth 100000 in
theorem laws_markNodeS.calls (k : Nat) (P_ : Nat → Prop) (u_ : Value) (l0 : List S64) (a1 r1 : Int) (r2 : List S64) (w0 w : World) (hB : Below w0.heap.size w0 w) (ho : Kd.S k64 64 w w0.heap.size P_ u_ l0) (h : laws_markNodeS.f k l0 a1 = some (r1, r2)) :
    Calls Try.prog 60 #[u_, .int .i64 a1] w fun e w' => e = .returned (.int .i64 r1) ∧ Kd.S k64 64 w' w0.heap.size P_ u_ r2 ∧ Below w0.heap.size w0 w' ∧ Kept w w' P_ := by
  have huN := Try.underlying64
  obtain ⟨A, c0, rfl⟩ := Kd.S_slice ho
  obtain ⟨N, hN⟩ : ∃ N, N = l0.length := ⟨_, rfl⟩
  rw [← hN] at ho ⊢
  have HN := Aside0.mk hN.symm
  have HS := Aside0.mk ho
  have HB := Aside0.mk hB
  have HK := Aside0.mk (Kept.refl w P_)
  have H' := Aside0.mk (show laws_markNodeS.l0 k l0 a1 0 = some (r1, r2) from h)
  clear ho hB h hN
  go_enter Try.func60, Try.ntmps60
  go_wp2
  go_loopg [1, 5] k (fun kq v1 v5 w' => ∃ (n_ i_ : Int) (xs_ : List S64), v1 = .int .i64 n_ ∧ v5 = .int .i64 i_ ∧ Aside0 (laws_markNodeS.l0 kq xs_ n_ i_ = some (r1, r2)) ∧ Aside0 (kq ≤ k) ∧ Aside0 (xs_.length = N) ∧ Aside0 (Kd.S k64 64 w' w0.heap.size P_ (.slice A N c0) xs_) ∧ Aside0 (Below w0.heap.size w0 w') ∧ Aside0 (Kept w w' P_))
  case atStart => exact ⟨a1, 0, l0, by first | rfl | (simp; done), by first | rfl | (simp; done), H', ⟨Nat.le_refl _⟩, HN, HS, HB, HK⟩
  case round =>
    clear H' HS HB HK HN
    obtain ⟨n_, i_, xs_, rfl, rfl, HA, HK1, HL, HS, HB, HK⟩ := hrel
    cases gk with
    | zero => cases HA.out
    | succ k1 =>
      have H := HA.out
      clear HA
      simp only [laws_markNodeS.l0] at H
      obtain ⟨c1, H⟩ | ⟨c1, H⟩ := XW.Xiu H
      · obtain ⟨c2, H⟩ := XW.Xif H
        obtain ⟨t_, HT, H⟩ := XW.Xbi H
        (try dsimp only at H)
        obtain ⟨⟨n2, ks'⟩, HI, H⟩ := XW.Xbi H
        (try dsimp only at H)
        have H' := Aside0.mk H
        clear H
        have hL := HL.out
        have hp : 0 < xs_.length := by omega
        obtain ⟨g, cap, e_, hg, _, _⟩ := Kd.S_form HS.out hp
        injection e_ with e1 e2 e3
        subst e1 e3
        clear e2
        have c1' : i_ < (N : Int) := by omega
        obtain ⟨oki, ce, hcl, hM, _, _, hoki, hH⟩ := Kd.S_elem HS.out z64 i_ c2 c1'
        obtain ⟨v4, rfl, hr⟩ := k64_openM hM
        replace hr : (Kd.int .i64).R 3 _ w0.heap.size oki v4 (rd_T64 xs_ i_).f4 := hr
        obtain ⟨A4, c4, rfl⟩ := Kd.R_slice hr
        have M0 := Aside0.mk (show XR.MS k64 64 w w0 _ P_ oki g N c0 xs_ i_ [.int .i64 (rd_T64 xs_ i_).f0, .int .i64 (rd_T64 xs_ i_).f1, .int .i64 (rd_T64 xs_ i_).f2, .string (rd_T64 xs_ i_).f3, (.slice A4 (rd_T64 xs_ i_).f4.length c4)] (.slice A4 (rd_T64 xs_ i_).f4.length c4) (rd_T64 xs_ i_).f4 from ⟨hH, hr, fun k hk => (hoki k hk).2, (Kd.S_R HS.out).1 g (by simp [Value.ownBlock]), hcl, c2, c1', HK.out, HB.out, hg⟩)
        have b0 : decide (i_ < (N : Int)) = true := decide_eq_true c1'
        have b1 : decide (0 ≤ i_) = true := decide_eq_true c2
        have b2 : decide (i_ < 0) = false := decide_eq_false (by omega)
        have p1 := eq_true c2
        have p2 := eq_true c1'
        clear c1 hp hcl hM hoki hH hr HS HB HK hL hg c1' c2
        obtain ⟨⟨hx0, hx1, hx2, hx3, hx4⟩, hf0, hf1, hf2, hf3⟩ := M0.out.five rfl
        go_wp2_with (first
          | ((with_reducible refine gate_store (t := 3) (p := 16) rfl ?_); refine XR.Xst 3 16 ⟨g, i_.toNat * 5, none⟩ (.int .i64 n_) ?_; intro wa hw; have M1 := Aside0.mk (M0.out.put 0 (by decide) (.int .i64 n_) rfl (off := i_.toNat * 5) rfl hw); clear hw hx0 hx1 hx2 hx3 hx4 hf0 hf1 hf2 hf3 M0; obtain ⟨⟨hx0, hx1, hx2, hx3, hx4⟩, hf0, hf1, hf2, hf3⟩ := M1.out.five rfl)
          | ((with_reducible refine gate_store (t := 3) (p := 23) rfl ?_); refine XR.Xst 3 23 ⟨g, i_.toNat * 5 + 1, none⟩ (.int .i64 (wrap64 (n_ + 1))) ?_; intro wb hw; have M2 := Aside0.mk (M1.out.put 1 (by decide) (.int .i64 (wrap64 (n_ + 1))) rfl (off := i_.toNat * 5 + 1) rfl hw); clear hw hx0 hx1 hx2 hx3 hx4 hf0 hf1 hf2 hf3 M1; obtain ⟨⟨hx0, hx1, hx2, hx3, hx4⟩, hf0, hf1, hf2, hf3⟩ := M2.out.five rfl)
          | ((with_reducible refine gate_store (t := 3) (p := 30) rfl ?_); refine XR.Xst 3 30 ⟨g, i_.toNat * 5 + 2, none⟩ (.int .i64 (wrap64 ((wrap64 (n_ + 1)) + 1))) ?_; intro wc hw; have M3 := Aside0.mk (M2.out.put 2 (by decide) (.int .i64 (wrap64 ((wrap64 (n_ + 1)) + 1))) rfl (off := i_.toNat * 5 + 2) rfl hw); clear hw hx0 hx1 hx2 hx3 hx4 hf0 hf1 hf2 hf3 M2; obtain ⟨⟨hx0, hx1, hx2, hx3, hx4⟩, hf0, hf1, hf2, hf3⟩ := M3.out.five rfl)
          | ((with_reducible refine gate_callee (f := 72) rfl ?_); refine XW.Xgo 36 Try.func72 #[.int .i64 (wrap64 ((wrap64 ((wrap64 (n_ + 1)) + 1)) + 1))] ?_; (with_reducible refine (laws_markText.calls k1 (wrap64 ((wrap64 ((wrap64 (n_ + 1)) + 1)) + 1)) t_ _ HT.out).mono ?_); rintro e wd ⟨rfl, hb⟩; refine ⟨_, rfl, ?_⟩; have M4 := Aside0.mk (M3.out.over hb); clear hb hx0 hx1 hx2 hx3 hx4 hf0 hf1 hf2 hf3 M3; obtain ⟨⟨hx0, hx1, hx2, hx3, hx4⟩, hf0, hf1, hf2, hf3⟩ := M4.out.five rfl)
          | ((with_reducible refine gate_store (t := 9) (p := 38) rfl ?_); refine XR.Xst 9 38 ⟨g, i_.toNat * 5 + 3, none⟩ (.string t_) ?_; intro we hw; have M5 := Aside0.mk (M4.out.put 3 (by decide) (.string t_) rfl (off := i_.toNat * 5 + 3) rfl hw); clear hw hx0 hx1 hx2 hx3 hx4 hf0 hf1 hf2 hf3 M4; obtain ⟨⟨hx0, hx1, hx2, hx3, hx4⟩, hf0, hf1, hf2, hf3⟩ := M5.out.five rfl)
          | ((with_reducible refine gate_callee (f := 125) rfl ?_); refine XW.Xgo 47 Try.func125 #[.slice A4 (rd_T64 xs_ i_).f4.length c4, .int .i64 (wrap64 ((wrap64 ((wrap64 ((wrap64 (n_ + 1)) + 1)) + 1)) + 1))] ?_; (with_reducible refine (laws_markIntS.calls k1 (fun k_ => oki k_) _ (rd_T64 xs_ i_).f4 (wrap64 ((wrap64 ((wrap64 ((wrap64 (n_ + 1)) + 1)) + 1)) + 1)) n2 ks' w0 _ M5.out.below M5.out.r HI.out).mono ?_); rintro e wf ⟨rfl, hr, hb, hk⟩; refine ⟨_, rfl, ?_⟩; have M6 := Aside0.mk (M5.out.kids hr hb hk); clear hr hb hk hx0 hx1 hx2 hx3 hx4 hf0 hf1 hf2 hf3 M5))
        go_roundg k1
        case measure => have := HK1.out; omega
        case rel => exact ⟨n2, wrap64 (i_ + 1), _, by first | rfl | (simp; done) | (simp [*]; done), by first | rfl | (simp; done) | (simp [*]; done), H', ⟨by have := HK1.out; omega⟩, ⟨by rw [List.length_set]; exact HL.out⟩, ⟨Kd.H_back M6.out.h (k64_mkM _ _ _ ⟨n_, (wrap64 (n_ + 1)), (wrap64 ((wrap64 (n_ + 1)) + 1)), t_, ks'⟩ M6.out.r) (fun _ hk => hk)⟩, ⟨M6.out.below⟩, ⟨M6.out.kept⟩⟩
      · simp only [Option.some.injEq, Prod.mk.injEq] at H
        obtain ⟨rfl, rfl⟩ := H
        have hL := HL.out
        have b0 : decide (i_ < (N : Int)) = false := decide_eq_false (by omega)
        clear hL c1
        go_wp2
        go_ret
        exact ⟨by first | rfl | (simp; done) | (simp [*]; done), HS.out, HB.out, HK.out⟩
def laws_markDoc.f (k : Nat) (a0_0 a0_1 : Int) (l0 : List S64) (a1 : Int) : Option (Int × List S64) := laws_markNodeS.f k l0 a1
set_option maxHeartbeats 8000000 in
set_option maxRecDepth 100000 in
theorem laws_markDoc.calls (k : Nat) (a0_0 a0_1 : Int) (P_ : Nat → Prop) (u_ : Value) (l0 : List S64) (a1 r1 : Int) (r2 : List S64) (w0 w : World) (hB : Below w0.heap.size w0 w) (ho : Kd.S k64 64 w w0.heap.size P_ u_ l0) (h : laws_markDoc.f k a0_0 a0_1 l0 a1 = some (r1, r2)) :
    Calls Try.prog 17 #[.agg #[.int .i64 a0_0, .int .i64 a0_1, u_], .int .i64 a1] w fun e w' => e = .returned (.int .i64 r1) ∧ Kd.S k64 64 w' w0.heap.size P_ u_ r2 ∧ Below w0.heap.size w0 w' ∧ Kept w w' P_ := by
  have huD := Try.underlying35
  obtain ⟨A, c0, rfl⟩ := Kd.S_slice ho
  have HS := Aside0.mk ho
  have HB := Aside0.mk hB
  have HH := Aside0.mk (show laws_markNodeS.f k l0 a1 = some (r1, r2) from h)
  clear ho hB h
  go_enter Try.func17, Try.ntmps17
  go_wp2_with (first
    | ((with_reducible refine gate_dst (N := 2) rfl ?_); refine XW.Xbox 2 #[.int .i64 a0_0, .int .i64 a0_1, .slice A l0.length c0] 35 ?_; intro gb hg wa hbox hb; have BK := Aside0.mk hbox; replace HS := Aside0.mk (Kd.S_below HS.out hb); replace HB := Aside0.mk (below_step HB.out hb); have HK := Aside0.mk (Kept.of_below hb P_); clear hg hbox hb; obtain ⟨hx0, hx1, hx2⟩ := XW.Xc3 BK)
    | ((with_reducible refine gate_callee (f := 60) rfl ?_); refine XW.Xgo 8 Try.func60 #[.slice A l0.length c0, .int .i64 a1] ?_; (with_reducible refine (laws_markNodeS.calls k P_ _ l0 a1 r1 r2 w0 _ HB.out HS.out HH.out).mono ?_); rintro e wb ⟨rfl, hs, hb, hk⟩; refine ⟨_, rfl, ?_⟩; replace HS := Aside0.mk hs; replace HB := Aside0.mk hb; replace HK := Aside0.mk (HK.out.then_ hk (fun k hk' => .inl hk')); clear hs hb hk hx0 hx1 hx2))
  go_ret
  exact ⟨by first | rfl | (simp; done) | (simp [*]; done), HS.out, HB.out, HK.out⟩
end Go.Proofs.Ytocelbmpnjnnbaa.XA
