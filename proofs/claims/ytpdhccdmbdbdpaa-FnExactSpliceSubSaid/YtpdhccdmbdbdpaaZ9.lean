/- Words and contracts of this claim, put together out of several texts by a program of this session's. Conditions: each theorem's own premises. -/
import Derived.Test.YtpdhccdmbdbdpaaZ1
import Derived.Test.YtpdhccdmbdbdpaaZ8
import Derived.Test.YtpdhccdmbdbdpaaZ3
import Derived.Test.YtpdhccdmbdbdpaaZ7
section
namespace Go.Proofs.Ytpdhccdmbdbdpaa.XA
set_option linter.unusedVariables false
open Go.RowKit Go.Proofs.YtpdhccdmbdbdpaaW.PrintWords Go.Proofs.YtpdhccdmbdbdpaaW.PrintLast Go.Proofs.YtpdhccdmbdbdpaaW.PrintMore
def laws_markNodeS.l0 : Nat → List S43 → Int → Int → Option (Int × List S43)
  | 0, _, _, _ => none
  | k + 1, xs_, n_, i_ => if i_ < (xs_.length : Int) then (if 0 ≤ i_ then ((laws_markText.f k (wrap64 ((wrap64 ((wrap64 (n_ + 1)) + 1)) + 1))).bind fun t_ => ((laws_markIntS.f k (rd_T43 xs_ i_).f4 (wrap64 ((wrap64 ((wrap64 ((wrap64 (n_ + 1)) + 1)) + 1)) + 1))).bind fun p_ => laws_markNodeS.l0 k (xs_.set i_.toNat ⟨n_, (wrap64 (n_ + 1)), (wrap64 ((wrap64 (n_ + 1)) + 1)), t_, p_.2⟩) p_.1 (wrap64 (i_ + 1)))) else none) else some (n_, xs_)
def laws_markNodeS.f (k : Nat) (l0 : List S43) (a1 : Int) : Option (Int × List S43) := laws_markNodeS.l0 k l0 a1 0
set_option maxHeartbeats 8000000 in
set_option maxRecDepth 100000 in
theorem laws_markNodeS.calls (k : Nat) (P_ : Nat → Prop) (u_ : Value) (l0 : List S43) (a1 r1 : Int) (r2 : List S43) (w0 w : World) (hB : Below w0.heap.size w0 w) (ho : Kd.S k43 43 w w0.heap.size P_ u_ l0) (h : laws_markNodeS.f k l0 a1 = some (r1, r2)) :
    Calls Try.prog 72 #[u_, .int .i64 a1] w fun e w' => e = .returned (.int .i64 r1) ∧ Kd.S k43 43 w' w0.heap.size P_ u_ r2 ∧ Below w0.heap.size w0 w' ∧ Kept w w' P_ := by
  have huN := Try.underlying43
  obtain ⟨A, c0, rfl⟩ := Kd.S_slice ho
  obtain ⟨N, hN⟩ : ∃ N, N = l0.length := ⟨_, rfl⟩
  rw [← hN] at ho ⊢
  have HN := Aside0.mk hN.symm
  have HS := Aside0.mk ho
  have HB := Aside0.mk hB
  have HK := Aside0.mk (Kept.refl w P_)
  have H' := Aside0.mk (show laws_markNodeS.l0 k l0 a1 0 = some (r1, r2) from h)
  clear ho hB h hN
  go_enter Try.func72, Try.ntmps72
  go_wp2
  go_loopg [1, 5] k (fun kq v1 v5 w' => ∃ (n_ i_ : Int) (xs_ : List S43), v1 = .int .i64 n_ ∧ v5 = .int .i64 i_ ∧ Aside0 (laws_markNodeS.l0 kq xs_ n_ i_ = some (r1, r2)) ∧ Aside0 (kq ≤ k) ∧ Aside0 (xs_.length = N) ∧ Aside0 (Kd.S k43 43 w' w0.heap.size P_ (.slice A N c0) xs_) ∧ Aside0 (Below w0.heap.size w0 w') ∧ Aside0 (Kept w w' P_))
  case atStart => exact ⟨a1, 0, l0, by first | rfl | (simp; done), by first | rfl | (simp; done), H', ⟨Nat.le_refl _⟩, HN, HS, HB, HK⟩
  case round =>
    clear H' HS HB HK HN
    obtain ⟨n_, i_, xs_, rfl, rfl, HA, HK1, HL, HS, HB, HK⟩ := hrel
    cases gk with
    | zero => cases HA.out
    | succ k1 =>
      have H := HA.out
      clear HA
      simp only [laws_markNodeS.l0] at H
      obtain ⟨c1, H⟩ | ⟨c1, H⟩ := XW.Xiu H
      · obtain ⟨c2, H⟩ := XW.Xif H
        obtain ⟨t_, HT, H⟩ := XW.Xbi H
        (try dsimp only at H)
        obtain ⟨⟨n2, ks'⟩, HI, H⟩ := XW.Xbi H
        (try dsimp only at H)
        have H' := Aside0.mk H
        clear H
        have hL := HL.out
        have hp : 0 < xs_.length := by omega
        obtain ⟨g, cap, e_, hg, _, _⟩ := Kd.S_form HS.out hp
        injection e_ with e1 e2 e3
        subst e1 e3
        clear e2
        have c1' : i_ < (N : Int) := by omega
        obtain ⟨oki, ce, hcl, hM, _, _, hoki, hH⟩ := Kd.S_elem HS.out z43 i_ c2 c1'
        obtain ⟨v4, rfl, hr⟩ := k43_openM hM
        replace hr : (Kd.int .i64).R 3 _ w0.heap.size oki v4 (rd_T43 xs_ i_).f4 := hr
        obtain ⟨A4, c4, rfl⟩ := Kd.R_slice hr
        have M0 := Aside0.mk (show XR.MS k43 43 w w0 _ P_ oki g N c0 xs_ i_ [.int .i64 (rd_T43 xs_ i_).f0, .int .i64 (rd_T43 xs_ i_).f1, .int .i64 (rd_T43 xs_ i_).f2, .string (rd_T43 xs_ i_).f3, (.slice A4 (rd_T43 xs_ i_).f4.length c4)] (.slice A4 (rd_T43 xs_ i_).f4.length c4) (rd_T43 xs_ i_).f4 from ⟨hH, hr, fun k hk => (hoki k hk).2, (Kd.S_R HS.out).1 g (by simp [Value.ownBlock]), hcl, c2, c1', HK.out, HB.out, hg⟩)
        have b0 : decide (i_ < (N : Int)) = true := decide_eq_true c1'
        have b1 : decide (0 ≤ i_) = true := decide_eq_true c2
        have b2 : decide (i_ < 0) = false := decide_eq_false (by omega)
        have p1 := eq_true c2
        have p2 := eq_true c1'
        clear c1 hp hcl hM hoki hH hr HS HB HK hL hg c1' c2
        obtain ⟨⟨hx0, hx1, hx2, hx3, hx4⟩, hf0, hf1, hf2, hf3⟩ := M0.out.five rfl
        go_wp2_with (first
          | ((with_reducible refine gate_store (t := 3) (p := 16) rfl ?_); refine XR.Xst 3 16 ⟨g, i_.toNat * 5, none⟩ (.int .i64 n_) ?_; intro wa hw; have M1 := Aside0.mk (M0.out.put 0 (by decide) (.int .i64 n_) rfl (off := i_.toNat * 5) rfl hw); clear hw hx0 hx1 hx2 hx3 hx4 hf0 hf1 hf2 hf3 M0; obtain ⟨⟨hx0, hx1, hx2, hx3, hx4⟩, hf0, hf1, hf2, hf3⟩ := M1.out.five rfl)
          | ((with_reducible refine gate_store (t := 3) (p := 23) rfl ?_); refine XR.Xst 3 23 ⟨g, i_.toNat * 5 + 1, none⟩ (.int .i64 (wrap64 (n_ + 1))) ?_; intro wb hw; have M2 := Aside0.mk (M1.out.put 1 (by decide) (.int .i64 (wrap64 (n_ + 1))) rfl (off := i_.toNat * 5 + 1) rfl hw); clear hw hx0 hx1 hx2 hx3 hx4 hf0 hf1 hf2 hf3 M1; obtain ⟨⟨hx0, hx1, hx2, hx3, hx4⟩, hf0, hf1, hf2, hf3⟩ := M2.out.five rfl)
          | ((with_reducible refine gate_store (t := 3) (p := 30) rfl ?_); refine XR.Xst 3 30 ⟨g, i_.toNat * 5 + 2, none⟩ (.int .i64 (wrap64 ((wrap64 (n_ + 1)) + 1))) ?_; intro wc hw; have M3 := Aside0.mk (M2.out.put 2 (by decide) (.int .i64 (wrap64 ((wrap64 (n_ + 1)) + 1))) rfl (off := i_.toNat * 5 + 2) rfl hw); clear hw hx0 hx1 hx2 hx3 hx4 hf0 hf1 hf2 hf3 M2; obtain ⟨⟨hx0, hx1, hx2, hx3, hx4⟩, hf0, hf1, hf2, hf3⟩ := M3.out.five rfl)
          | ((with_reducible refine gate_callee (f := 88) rfl ?_); refine XW.Xgo 36 Try.func88 #[.int .i64 (wrap64 ((wrap64 ((wrap64 (n_ + 1)) + 1)) + 1))] ?_; (with_reducible refine (laws_markText.calls k1 (wrap64 ((wrap64 ((wrap64 (n_ + 1)) + 1)) + 1)) t_ _ HT.out).mono ?_); rintro e wd ⟨rfl, hb⟩; refine ⟨_, rfl, ?_⟩; have M4 := Aside0.mk (M3.out.over hb); clear hb hx0 hx1 hx2 hx3 hx4 hf0 hf1 hf2 hf3 M3; obtain ⟨⟨hx0, hx1, hx2, hx3, hx4⟩, hf0, hf1, hf2, hf3⟩ := M4.out.five rfl)
          | ((with_reducible refine gate_store (t := 9) (p := 38) rfl ?_); refine XR.Xst 9 38 ⟨g, i_.toNat * 5 + 3, none⟩ (.string t_) ?_; intro we hw; have M5 := Aside0.mk (M4.out.put 3 (by decide) (.string t_) rfl (off := i_.toNat * 5 + 3) rfl hw); clear hw hx0 hx1 hx2 hx3 hx4 hf0 hf1 hf2 hf3 M4; obtain ⟨⟨hx0, hx1, hx2, hx3, hx4⟩, hf0, hf1, hf2, hf3⟩ := M5.out.five rfl)
          | ((with_reducible refine gate_callee (f := 30) rfl ?_); refine XW.Xgo 47 Try.func30 #[.slice A4 (rd_T43 xs_ i_).f4.length c4, .int .i64 (wrap64 ((wrap64 ((wrap64 ((wrap64 (n_ + 1)) + 1)) + 1)) + 1))] ?_; (with_reducible refine (laws_markIntS.calls k1 (fun k_ => oki k_) _ (rd_T43 xs_ i_).f4 (wrap64 ((wrap64 ((wrap64 ((wrap64 (n_ + 1)) + 1)) + 1)) + 1)) n2 ks' w0 _ M5.out.below M5.out.r HI.out).mono ?_); rintro e wf ⟨rfl, hr, hb, hk⟩; refine ⟨_, rfl, ?_⟩; have M6 := Aside0.mk (M5.out.kids hr hb hk); clear hr hb hk hx0 hx1 hx2 hx3 hx4 hf0 hf1 hf2 hf3 M5))
        go_roundg k1
        case measure => have := HK1.out; omega
        case rel => exact ⟨n2, wrap64 (i_ + 1), _, by first | rfl | (simp; done) | (simp [*]; done), by first | rfl | (simp; done) | (simp [*]; done), H', ⟨by have := HK1.out; omega⟩, ⟨by rw [List.length_set]; exact HL.out⟩, ⟨Kd.H_back M6.out.h (k43_mkM _ _ _ ⟨n_, (wrap64 (n_ + 1)), (wrap64 ((wrap64 (n_ + 1)) + 1)), t_, ks'⟩ M6.out.r) (fun _ hk => hk)⟩, ⟨M6.out.below⟩, ⟨M6.out.kept⟩⟩
      · simp only [Option.some.injEq, Prod.mk.injEq] at H
        obtain ⟨rfl, rfl⟩ := H
        have hL := HL.out
        have b0 : decide (i_ < (N : Int)) = false := decide_eq_false (by omega)
        clear hL c1
        go_wp2
        go_ret
        exact ⟨by first | rfl | (simp; done) | (simp [*]; done), HS.out, HB.out, HK.out⟩
def laws_markDoc.f (k : Nat) (a0_0 a0_1 : Int) (l0 : List S43) (a1 : Int) : Option (Int × List S43) := laws_markNodeS.f k l0 a1
set_option maxHeartbeats 8000000 in
set_option maxRecDepth 100000 in
theorem laws_markDoc.calls (k : Nat) (a0_0 a0_1 : Int) (P_ : Nat → Prop) (u_ : Value) (l0 : List S43) (a1 r1 : Int) (r2 : List S43) (w0 w : World) (hB : Below w0.heap.size w0 w) (ho : Kd.S k43 43 w w0.heap.size P_ u_ l0) (h : laws_markDoc.f k a0_0 a0_1 l0 a1 = some (r1, r2)) :
    Calls Try.prog 29 #[.agg #[.int .i64 a0_0, .int .i64 a0_1, u_], .int .i64 a1] w fun e w' => e = .returned (.int .i64 r1) ∧ Kd.S k43 43 w' w0.heap.size P_ u_ r2 ∧ Below w0.heap.size w0 w' ∧ Kept w w' P_ := by
  have huD := Try.underlying29
  obtain ⟨A, c0, rfl⟩ := Kd.S_slice ho
  have HS := Aside0.mk ho
  have HB := Aside0.mk hB
  have HH := Aside0.mk (show laws_markNodeS.f k l0 a1 = some (r1, r2) from h)
  clear ho hB h
  go_enter Try.func29, Try.ntmps29
  go_wp2_with (first
    | ((with_reducible refine gate_dst (N := 2) rfl ?_); refine XW.Xbox 2 #[.int .i64 a0_0, .int .i64 a0_1, .slice A l0.length c0] 29 ?_; intro gb hg wa hbox hb; have BK := Aside0.mk hbox; replace HS := Aside0.mk (Kd.S_below HS.out hb); replace HB := Aside0.mk (below_step HB.out hb); have HK := Aside0.mk (Kept.of_below hb P_); clear hg hbox hb; obtain ⟨hx0, hx1, hx2⟩ := XW.Xc3 BK)
    | ((with_reducible refine gate_callee (f := 72) rfl ?_); refine XW.Xgo 8 Try.func72 #[.slice A l0.length c0, .int .i64 a1] ?_; (with_reducible refine (laws_markNodeS.calls k P_ _ l0 a1 r1 r2 w0 _ HB.out HS.out HH.out).mono ?_); rintro e wb ⟨rfl, hs, hb, hk⟩; refine ⟨_, rfl, ?_⟩; replace HS := Aside0.mk hs; replace HB := Aside0.mk hb; replace HK := Aside0.mk (HK.out.then_ hk (fun k hk' => .inl hk')); clear hs hb hk hx0 hx1 hx2))
  go_ret
  exact ⟨by first | rfl | (simp; done) | (simp [*]; done), HS.out, HB.out, HK.out⟩
end Go.Proofs.Ytpdhccdmbdbdpaa.XA
end
namespace Go.Proofs.Ytpdhccdmbdbdpaa.XA
open Go.RowKit Go.Proofs.YtpdhccdmbdbdpaaW.PrintWords Go.Proofs.YtpdhccdmbdbdpaaW.PrintLast Go.Proofs.YtpdhccdmbdbdpaaW.PrintMore XW
attribute [local go_sem] max2_int min2_int max_two min_two max_three min_three max_four min_four   -- for this text's walks alone
set_option linter.unusedVariables false
set_option linter.unusedSimpArgs false
set_option maxHeartbeats 8000000
set_option maxRecDepth 100000
mutual
def laws_FnExactSpliceSub.j0 : Nat → Int → Int → Bool → Int → Int → List (S112) → Int → Int → List (S112) → Int → Int → List (S43) → Int → Int → List (S43) → Int → Int → List (S43) → Int → Int → List (S43) → Option (Bool)
 | 0, _, _, _, _, _, _, _, _, _, _, _, _, _, _, _, _, _, _, _, _, _ => none
 | k + 1, x7, x11, x53, x434000, x434001, x434002, x435000, x435001, x435002, x454000, x454001, x454002, x460000, x460001, x460002, x466000, x466001, x466002, x473000, x473001, x473002 => if x53 = true then (some false) else ((laws_toDoc.f k x434000 x434001 x434002).bind fun bt474 => ((laws_eqDoc.f k x460000 x460001 x460002 bt474.1 bt474.2.1 bt474.2.2).bind fun t10 => (if t10 = true then ((laws_toDoc.f k x435000 x435001 x435002).bind fun bt480 => ((laws_eqDoc.f k x466000 x466001 x466002 bt480.1 bt480.2.1 bt480.2.2).bind fun t12 => (if t12 = true then ((laws_markDoc.f k x460000 x460001 x460002 1).bind fun bt486 => ((laws_markDoc.f k x466000 x466001 x466002 bt486.1).bind fun bt488 => (if bt488.1 < 0 then (laws_FnExactSpliceSub.j1 k x7 true x434000 x434001 x434002 x435000 x435001 x435002 x454000 x454001 x454002 x473000 x473001 x473002) else ((laws_eqDoc.f k x473000 x473001 x473002 x454000 x454001 x454002).bind fun t13 => (if t13 = true then (laws_FnExactSpliceSub.j1 k x7 (x11 != x7) x434000 x434001 x434002 x435000 x435001 x435002 x454000 x454001 x454002 x473000 x473001 x473002) else (laws_FnExactSpliceSub.j1 k x7 true x434000 x434001 x434002 x435000 x435001 x435002 x454000 x454001 x454002 x473000 x473001 x473002)))))) else (some false)))) else (some false))))
def laws_FnExactSpliceSub.j1 : Nat → Int → Bool → Int → Int → List (S112) → Int → Int → List (S112) → Int → Int → List (S43) → Int → Int → List (S43) → Option (Bool)
 | 0, _, _, _, _, _, _, _, _, _, _, _, _, _, _ => none
 | k + 1, x7, x82, x434000, x434001, x434002, x435000, x435001, x435002, x454000, x454001, x454002, x473000, x473001, x473002 => if x82 = true then (some false) else ((laws_markDoc.f k x473000 x473001 x473002 1).bind fun bt491 => ((laws_heldDoc.f k x473000 x473001 bt491.2 1).bind fun t10 => (if t10 < 0 then (some false) else (if t10 = bt491.1 then ((laws_toDoc.f k x434000 x434001 x434002).bind fun bt494 => ((laws_toDoc.f k x435000 x435001 x435002).bind fun bt499 => ((impl_SpliceSub.f k bt494.1 bt494.2.1 bt494.2.2 bt499.1 bt499.2.1 bt499.2.2).bind fun bt504 => ((laws_eqDoc.f k bt504.1 bt504.2.1 bt504.2.2.1 x454000 x454001 x454002).bind fun t11 => (if t11 = true then (laws_FnExactSpliceSub.j2 k bt491.1 (bt504.2.2.2 != x7) x473000 x473001 bt491.2) else (laws_FnExactSpliceSub.j2 k bt491.1 true x473000 x473001 bt491.2)))))) else (some false)))))
def laws_FnExactSpliceSub.j2 : Nat → Int → Bool → Int → Int → List (S43) → Option (Bool)
 | 0, _, _, _, _, _ => none
 | k + 1, x13, x110, x473000, x473001, x473002 => if x110 = true then (some false) else ((laws_heldDoc.f k x473000 x473001 x473002 1).bind fun t10 => (if t10 < 0 then (some false) else (if t10 = x13 then (some true) else (some false))))
end
def laws_FnExactSpliceSub.f (k : Nat) (a0_0 : Int) (a0_1 : Int) (l0_2 : List (S112)) (a1_0 : Int) (a1_1 : Int) (l1_2 : List (S112)) : Option (Bool) := (laws_szDoc.f k a0_0 a0_1 l0_2 1048576).bind fun t10 => (if t10 < 0 then (some true) else ((laws_szDoc.f k a1_0 a1_1 l1_2 t10).bind fun t11 => (if t11 < 0 then (some true) else ((laws_toDoc.f k a0_0 a0_1 l0_2).bind fun bt437 => ((laws_toDoc.f k a1_0 a1_1 l1_2).bind fun bt442 => ((spec_SpliceSub.f k bt437.1 bt437.2.1 bt437.2.2 bt442.1 bt442.2.1 bt442.2.2).bind fun bt447 => ((laws_toDoc.f k a0_0 a0_1 l0_2).bind fun bt454 => ((laws_toDoc.f k a1_0 a1_1 l1_2).bind fun bt460 => ((impl_SpliceSub.f k bt454.1 bt454.2.1 bt454.2.2 bt460.1 bt460.2.1 bt460.2.2).bind fun bt466 => ((laws_eqDoc.f k bt466.1 bt466.2.1 bt466.2.2.1 bt447.1 bt447.2.1 bt447.2.2.1).bind fun t12 => (if t12 = true then (laws_FnExactSpliceSub.j0 k bt447.2.2.2 bt466.2.2.2 (bt466.2.2.2 != bt447.2.2.2) a0_0 a0_1 l0_2 a1_0 a1_1 l1_2 bt447.1 bt447.2.1 bt447.2.2.1 bt454.1 bt454.2.1 bt454.2.2 bt460.1 bt460.2.1 bt460.2.2 bt466.1 bt466.2.1 bt466.2.2.1) else (laws_FnExactSpliceSub.j0 k bt447.2.2.2 bt466.2.2.2 true a0_0 a0_1 l0_2 a1_0 a1_1 l1_2 bt447.1 bt447.2.1 bt447.2.2.1 bt454.1 bt454.2.1 bt454.2.2 bt460.1 bt460.2.1 bt460.2.2 bt466.1 bt466.2.1 bt466.2.2.1))))))))))))
def laws_FnExactSpliceSub.T8 : Bool × List (List Nat × List Nat) := (true, [([], []), ([0], [0]), ([], []), ([2, 1], [2]), ([1, 3, 3], [1, 3]), ([4], [4]), ([5], [5]), ([5], [5]), ([], []), ([8, 6, 4, 0, 1, 2, 3, 4, 5, 6, 8], [6, 8]), ([7, 9, 0, 1, 2, 3, 4, 5, 6, 7, 8, 9], [7])])
def laws_FnExactSpliceSub.B8 : List Nat := [0, 1, 0, 7, 15, 31, 63, 63, 0, 383, 1023]
theorem laws_FnExactSpliceSub.tab8 : rtab .any (opsOf Try.f12 8) = laws_FnExactSpliceSub.T8 := by kernel_rfl
theorem laws_FnExactSpliceSub.bits8 : waitsOk laws_FnExactSpliceSub.T8.2 laws_FnExactSpliceSub.B8 = true := by kernel_rfl
def laws_FnExactSpliceSub.T31 : Bool × List (List Nat × List Nat) := (true, [([], []), ([0], [0]), ([], []), ([2, 1], [2]), ([1, 3, 3], [1, 3]), ([4], [4]), ([5], [5]), ([5], [5]), ([], []), ([8, 6, 4, 0, 1, 2, 3, 4, 5, 6, 8], [6, 8]), ([7, 9, 0, 1, 2, 3, 4, 5, 6, 7, 8, 9], [7])])
def laws_FnExactSpliceSub.B31 : List Nat := [0, 1, 0, 7, 15, 31, 63, 63, 0, 383, 1023]
theorem laws_FnExactSpliceSub.tab31 : rtab .any (opsOf Try.f12 31) = laws_FnExactSpliceSub.T31 := by kernel_rfl
theorem laws_FnExactSpliceSub.bits31 : waitsOk laws_FnExactSpliceSub.T31.2 laws_FnExactSpliceSub.B31 = true := by kernel_rfl
theorem laws_FnExactSpliceSub.calls (k : Nat) (a0_0 : Int) (a0_1 : Int) (A0_2 : Option Addr) (c0_2 : Nat) (l0_2 : List (S112)) (a1_0 : Int) (a1_1 : Int) (A1_2 : Option Addr) (c1_2 : Nat) (l1_2 : List (S112)) (r : Bool) (w : World) (hr0_2 : Kd.C k112 w A0_2 l0_2.length l0_2) (hc0_2 : l0_2.length ≤ c0_2) (hr1_2 : Kd.C k112 w A1_2 l1_2.length l1_2) (hc1_2 : l1_2.length ≤ c1_2) (hr_ : r = true) (h : laws_FnExactSpliceSub.f k a0_0 a0_1 l0_2 a1_0 a1_1 l1_2 = some r) :
  Calls Try.prog 12 #[.agg #[.int .i64 a0_0, .int .i64 a0_1, .slice A0_2 l0_2.length c0_2], .agg #[.int .i64 a1_0, .int .i64 a1_1, .slice A1_2 l1_2.length c1_2]] w fun e w' => e = .returned (.bool r) ∧ Below w.heap.size w w' := by
 subst hr_
 have hu24 := Try.underlying24
 have hu29 := Try.underlying29
 have HR0_2 := Am hr0_2
 have HC0_2 := Am hc0_2
 clear hr0_2 hc0_2
 have HR1_2 := Am hr1_2
 have HC1_2 := Am hc1_2
 clear hr1_2 hc1_2
 have HB := Am (Below.refl w.heap.size w)
 have H : ((laws_szDoc.f k a0_0 a0_1 l0_2 1048576).bind fun t435 => (if t435 < 0 then (some true) else ((laws_szDoc.f k a1_0 a1_1 l1_2 t435).bind fun t436 => (if t436 < 0 then (some true) else ((laws_toDoc.f k a0_0 a0_1 l0_2).bind fun bt437 => ((laws_toDoc.f k a1_0 a1_1 l1_2).bind fun bt442 => ((spec_SpliceSub.f k bt437.1 bt437.2.1 bt437.2.2 bt442.1 bt442.2.1 bt442.2.2).bind fun bt447 => ((laws_toDoc.f k a0_0 a0_1 l0_2).bind fun bt454 => ((laws_toDoc.f k a1_0 a1_1 l1_2).bind fun bt460 => ((impl_SpliceSub.f k bt454.1 bt454.2.1 bt454.2.2 bt460.1 bt460.2.1 bt460.2.2).bind fun bt466 => ((laws_eqDoc.f k bt466.1 bt466.2.1 bt466.2.2.1 bt447.1 bt447.2.1 bt447.2.2.1).bind fun t473 => (if t473 = true then (laws_FnExactSpliceSub.j0 k bt447.2.2.2 bt466.2.2.2 (bt466.2.2.2 != bt447.2.2.2) a0_0 a0_1 l0_2 a1_0 a1_1 l1_2 bt447.1 bt447.2.1 bt447.2.2.1 bt454.1 bt454.2.1 bt454.2.2 bt460.1 bt460.2.1 bt460.2.2 bt466.1 bt466.2.1 bt466.2.2.1) else (laws_FnExactSpliceSub.j0 k bt447.2.2.2 bt466.2.2.2 true a0_0 a0_1 l0_2 a1_0 a1_1 l1_2 bt447.1 bt447.2.1 bt447.2.2.1 bt454.1 bt454.2.1 bt454.2.2 bt460.1 bt460.2.1 bt460.2.2 bt466.1 bt466.2.1 bt466.2.2.1))))))))))))) = some true := h
 clear h
 obtain ⟨t435, A3, H⟩ := Xbi H
 try dsimp only at H
 have HC4 := Am H
 clear H
 go_enter Try.func12, Try.ntmps12
 go_upto_if 21 with (first | ((with_reducible refine gate_dst (N := 2) rfl ?_); refine Xbx 2 #[.int .i64 a0_0, .int .i64 a0_1, .slice A0_2 l0_2.length c0_2] 24 ?_; intro gb433 hg w5 B433 GE433 hb; replace HB := Xhb hb; clear hb hg) | ((with_reducible refine gate_dst (N := 3) rfl ?_); refine Xbx 3 #[.int .i64 a1_0, .int .i64 a1_1, .slice A1_2 l1_2.length c1_2] 24 ?_; intro gb434 hg w6 B434 GE434 hb; replace HB := Xhb hb; have NB433_434 := Xnb hg B433; have NB434_433 := Xns NB433_434; replace B433 := Xbb B433 hb; clear hb hg; have hnb7 := NB433_434.out; have hnc7 := NB434_433.out; obtain ⟨Z8_0, Z8_1, Z8_2⟩ := Xc3 B433; obtain ⟨F8_0, F8_1, F8_2⟩ := Xf3 B433) | ((with_reducible refine gate_callee (f := 13) rfl ?_); refine Xgo 19 Try.func13 #[.agg #[.int .i64 a0_0, .int .i64 a0_1, .slice A0_2 l0_2.length c0_2], .int .i64 1048576] ?_; (with_reducible refine (laws_szDoc.calls k a0_0 a0_1 _ _ l0_2 1048576 t435 _ ?s1 ?s2 A3.out).mono ?_); (case s1 => exact Xc HR0_2); (case s2 => exact HC0_2.out); rintro e w9 ⟨rfl, hb⟩; refine ⟨_, rfl, ?_⟩; replace B433 := Xbb B433 hb; replace B434 := Xbb B434 hb; replace HB := Xhb hb; clear hb))
 have H := HC4.out
 clear HC4
 obtain ⟨c10b0, H⟩ | ⟨c10b0, H⟩ := Xit H
 ·(first | rw [c10b0] | (simp only [i64_w, i32_w]; rw [c10b0]) | skip)
  go_wp2
  go_ret
  exact ⟨Xe, Xi⟩
 (first | rw [c10b0] | (simp only [i64_w, i32_w]; rw [c10b0]) | skip)
 obtain ⟨t436, A11, H⟩ := Xbi H
 try dsimp only at H
 have HC12 := Am H
 clear H
 have hnb13 := NB434_433.out
 have hnc13 := NB433_434.out
 obtain ⟨Z14_0, Z14_1, Z14_2⟩ := Xc3 B434
 obtain ⟨F14_0, F14_1, F14_2⟩ := Xf3 B434
 go_upto_if 26 with ((with_reducible refine gate_callee (f := 13) rfl ?_); refine Xgo 24 Try.func13 #[.agg #[.int .i64 a1_0, .int .i64 a1_1, .slice A1_2 l1_2.length c1_2], .int .i64 t435] ?_; (with_reducible refine (laws_szDoc.calls k a1_0 a1_1 _ _ l1_2 t435 t436 _ ?s1 ?s2 A11.out).mono ?_); (case s1 => exact Xc HR1_2); (case s2 => exact HC1_2.out); rintro e w15 ⟨rfl, hb⟩; refine ⟨_, rfl, ?_⟩; replace B433 := Xbb B433 hb; replace B434 := Xbb B434 hb; replace HB := Xhb hb; clear hb)
 have H := HC12.out
 clear HC12
 obtain ⟨c16b0, H⟩ | ⟨c16b0, H⟩ := Xit H
 ·(first | rw [c16b0] | (simp only [i64_w, i32_w]; rw [c16b0]) | skip)
  go_wp2
  go_ret
  exact ⟨Xe, Xi⟩
 (first | rw [c16b0] | (simp only [i64_w, i32_w]; rw [c16b0]) | skip)
 replace H := Option.bind_eq_some_iff.mp H
 obtain ⟨⟨t437, t438, t439⟩, A170, H⟩ := H
 try dsimp only at H
 have A17 := Am A170
 clear A170
 replace H := Option.bind_eq_some_iff.mp H
 obtain ⟨⟨t442, t443, t444⟩, A180, H⟩ := H
 try dsimp only at H
 have A18 := Am A180
 clear A180
 replace H := Option.bind_eq_some_iff.mp H
 obtain ⟨⟨t447, t448, t449, t452⟩, A190, H⟩ := H
 try dsimp only at H
 have A19 := Am A190
 clear A190
 replace H := Option.bind_eq_some_iff.mp H
 obtain ⟨⟨t454, t455, t456⟩, A200, H⟩ := H
 try dsimp only at H
 have A20 := Am A200
 clear A200
 replace H := Option.bind_eq_some_iff.mp H
 obtain ⟨⟨t460, t461, t462⟩, A210, H⟩ := H
 try dsimp only at H
 have A21 := Am A210
 clear A210
 replace H := Option.bind_eq_some_iff.mp H
 obtain ⟨⟨t466, t467, t468, t471⟩, A220, H⟩ := H
 try dsimp only at H
 have A22 := Am A220
 clear A220
 have HC23 := Am H
 clear H
 try go_wp2
 replace B433 := Xbd B433
 replace B434 := Xbd B434
 replace HB := Xhd HB
 refine Sx 11 (fun w' => w'.cell? ⟨gb433, 0, none⟩ = some (.int .i64 a0_0) ∧ w'.cell? ⟨gb433, 1, none⟩ = some (.int .i64 a0_1) ∧ w'.cell? ⟨gb433, 2, none⟩ = some (.slice A0_2 l0_2.length c0_2) ∧ w'.cell? ⟨gb434, 0, none⟩ = some (.int .i64 a1_0) ∧ w'.cell? ⟨gb434, 1, none⟩ = some (.int .i64 a1_1) ∧ w'.cell? ⟨gb434, 2, none⟩ = some (.slice A1_2 l1_2.length c1_2)) ⟨Xk B433 0, Xk B433 1, Xk B433 2, Xk B434 0, Xk B434 1, Xk B434 2⟩ (fun hHeld => ?_); refine with_tabW laws_FnExactSpliceSub.tab8 laws_FnExactSpliceSub.bits8 (fun HT_ HW_ => ?_)
 generalize w15.drew = w24 at B433 B434 HB hHeld ⊢
 refine Ta 0 28 11 1 ?_
 refine Ta 2 30 11 5 ?_
 refine join_ (σ := Value × Value × Value × Nat × Nat × Nat) 2 #[true, true, true, true, true, true, true, true, true, false, false] (fun s_ => [(29, .agg #[.int .i64 t437, .int .i64 t438, s_.1]), (31, .agg #[.int .i64 t442, .int .i64 t443, s_.2.1]), (32, .tuple #[.agg #[.int .i64 t447, .int .i64 t448, s_.2.2.1], .int .i64 t452]), (6, .pointer (some ⟨s_.2.2.2.1, 0, none⟩)), (27, .tuple #[.agg #[.int .i64 t447, .int .i64 t448, s_.2.2.1], .int .i64 t452]), (33, .agg #[.int .i64 t447, .int .i64 t448, s_.2.2.1]), (34, .int .i64 t452)]) (fun s_ w' => (w'.cell? ⟨gb433, 0, none⟩ = some (.int .i64 a0_0) ∧ w'.cell? ⟨gb433, 1, none⟩ = some (.int .i64 a0_1) ∧ w'.cell? ⟨gb433, 2, none⟩ = some (.slice A0_2 l0_2.length c0_2) ∧ w'.cell? ⟨gb434, 0, none⟩ = some (.int .i64 a1_0) ∧ w'.cell? ⟨gb434, 1, none⟩ = some (.int .i64 a1_1) ∧ w'.cell? ⟨gb434, 2, none⟩ = some (.slice A1_2 l1_2.length c1_2)) ∧ (Kd.S k43 43 w' w.heap.size (fun k_ => some k_ ≠ (s_.2.1 : Value).ownBlock ∧ some k_ ≠ (s_.2.2.1 : Value).ownBlock ∧ k_ ≠ XR.zge s_.2.2.2.2.1 k_ ∧ k_ ≠ XR.zlt s_.2.2.2.2.2 k_) s_.1 t439) ∧ (Kd.S k43 43 w' w.heap.size (fun k_ => some k_ ≠ (s_.1 : Value).ownBlock ∧ some k_ ≠ (s_.2.2.1 : Value).ownBlock ∧ k_ ≠ XR.zge s_.2.2.2.2.2 k_) s_.2.1 t444) ∧ (Kd.N k43 43 w' w.heap.size (fun k_ => some k_ ≠ (s_.1 : Value).ownBlock ∧ some k_ ≠ (s_.2.1 : Value).ownBlock ∧ k_ ≠ gb433 ∧ k_ ≠ gb434 ∧ k_ ≠ s_.2.2.2.1) s_.2.2.1 t449) ∧ (w'.heap[gb433]? = some (.cells #[.int .i64 a0_0, .int .i64 a0_1, .slice A0_2 l0_2.length c0_2] 24 (0, 0))) ∧ (w'.heap[gb434]? = some (.cells #[.int .i64 a1_0, .int .i64 a1_1, .slice A1_2 l1_2.length c1_2] 24 (0, 0))) ∧ (w'.heap[s_.2.2.2.1]? = some (.cells #[.int .i64 0, .int .i64 0, .slice none 0 0] 29 (0, 0))) ∧ (w.heap.size ≤ s_.2.2.2.1) ∧ (w.heap.size ≤ s_.2.2.2.1) ∧ (gb433 ≠ s_.2.2.2.1) ∧ (s_.2.2.2.1 ≠ gb433) ∧ (gb434 ≠ s_.2.2.2.1) ∧ (s_.2.2.2.1 ≠ gb434) ∧ (Below w.heap.size w w')) ?_ ?_
 rotate_left
 ·intro hCont
  refine two_ (i := 1) (j := 8) (Ni := some 29) (Nj := some 6) #[true, true, true, false, false, false, false, false, false, false, false] #[true, false, true, false, false, false, false, false, true, false, false] rfl rfl rfl rfl (two_of HT_.out (by kernel_rfl)) (by decide) (by decide) (fun K hK => ?_) (fun K hK => ?_)
  ·skip
   refine Gs Try.func15 #[.agg #[.int .i64 a0_0, .int .i64 a0_1, .slice A0_2 l0_2.length c0_2]] ?_
   with_reducible refine (laws_toDoc.calls k a0_0 a0_1 _ _ l0_2 t437 t438 t439 _ ?s1 ?s2 A17.out).mono ?_
   (case s1 => exact Xc HR0_2)
   (case s2 => exact HC0_2.out)
   rintro e w25 ⟨v440, rfl, ho0, hb⟩
   refine ⟨_, rfl, ?_⟩
   obtain ⟨z1_, hzz1_⟩ := XR.zat ho0
   have HO441 := Am (Kd.S_lower (XR.S_newZ ho0 hzz1_) (below_size Xi))
   replace B433 := Xbb B433 hb
   replace B434 := Xbb B434 hb
   replace HB := Xhb hb
   try clear hb
   try clear hb2
   try clear hk
   try clear hi
   try clear ho0
   try clear hzz1_
   refine hK.out _ _ ⟨Xk B433 0, Xk B433 1, Xk B433 2, Xk B434 0, Xk B434 1, Xk B434 2⟩ (fun hHeld => ?_)
   clear hK K
   refine Xno ?_
   refine two_ (i := 3) (j := 8) (Ni := some 31) (Nj := some 6) #[true, true, true, true, false, false, false, false, false, false, false] #[true, true, true, false, false, false, false, false, true, false, false] rfl rfl rfl rfl (two_of HT_.out (by kernel_rfl)) (by decide) (by decide) (fun K hK => ?_) (fun K hK => ?_)
   ·skip
    refine Gs Try.func15 #[.agg #[.int .i64 a1_0, .int .i64 a1_1, .slice A1_2 l1_2.length c1_2]] ?_
    with_reducible refine (laws_toDoc.calls k a1_0 a1_1 _ _ l1_2 t442 t443 t444 _ ?s1 ?s2 A18.out).mono ?_
    (case s1 => exact Xc HR1_2)
    (case s2 => exact HC1_2.out)
    rintro e w26 ⟨v445, rfl, ho0, hb⟩
    refine ⟨_, rfl, ?_⟩
    obtain ⟨z2_, hzz2_⟩ := XR.zat ho0
    have HO446 := Am (Kd.S_lower (Kd.S_new' (XR.S_newZ ho0 hzz2_) (Kd.S_lt (Xq HO441))) (below_size Xi))
    replace HO441 := Am (XR.S_elderZ (Xq HO441) (Kd.S_base ho0) hb hzz2_)
    replace B433 := Xbb B433 hb
    replace B434 := Xbb B434 hb
    replace HB := Xhb hb
    try clear hb
    try clear hb2
    try clear hk
    try clear hi
    try clear ho0
    try clear hzz2_
    obtain ⟨Ao27, co27, eo27⟩ := Kd.S_slice HO441.out
    (first | subst eo27 | (injection eo27 with f1_ f2_ f3_; have f4_ := f1_.symm; have f5_ := f3_.symm; clear f1_ f2_ f3_; subst f4_; subst f5_))
    obtain ⟨Ao28, co28, eo28⟩ := Kd.S_slice HO446.out
    (first | subst eo28 | (injection eo28 with f1_ f2_ f3_; have f4_ := f1_.symm; have f5_ := f3_.symm; clear f1_ f2_ f3_; subst f4_; subst f5_))
    refine hK.out _ _ ⟨Xk B433 0, Xk B433 1, Xk B433 2, Xk B434 0, Xk B434 1, Xk B434 2⟩ (fun hHeld => ?_)
    clear hK K
    refine Xno ?_
    refine two_ (i := 4) (j := 8) (Ni := some 32) (Nj := some 6) #[true, true, true, true, true, false, false, false, false, false, false] #[true, true, true, true, false, false, false, false, true, false, false] rfl rfl rfl rfl (two_of HT_.out (by kernel_rfl)) (by decide) (by decide) (fun K hK => ?_) (fun K hK => ?_)
    ·skip
     refine Gs Try.func48 #[.agg #[.int .i64 t437, .int .i64 t438, .slice Ao27 t439.length co27], .agg #[.int .i64 t442, .int .i64 t443, .slice Ao28 t444.length co28]] ?_
     with_reducible refine (spec_SpliceSub.calls k t437 t438 _ _ t439 t442 t443 _ _ t444 t447 t448 t449 t452 _ ?s1 ?s2 ?s3 ?s4 A19.out).mono ?_
     (case s1 => exact Xcd (Kd.S_reads' HO441.out).2.2)
     (case s2 => exact (Kd.S_reads' HO441.out).2.1)
     (case s3 => exact Xcd (Kd.S_reads' HO446.out).2.2)
     (case s4 => exact (Kd.S_reads' HO446.out).2.1)
     rintro e w29 ⟨v450, rfl, ho0, hb⟩
     refine ⟨_, rfl, ?_⟩
     have HO451 := Am (Kd.N_lower (Kd.N_mono (ok' := fun k_ => some k_ ≠ (.slice Ao27 t439.length co27 : Value).ownBlock ∧ some k_ ≠ (.slice Ao28 t444.length co28 : Value).ownBlock ∧ k_ ≠ gb433 ∧ k_ ≠ gb434) ho0 (fun k_ hk_ => ⟨(Kd.fresh' (Kd.S_lt (Xq HO441)) k_ hk_), (Kd.fresh' (Kd.S_lt (Xq HO446)) k_ hk_), (Kd.freshB (g := gb433) (o := .cells #[.int .i64 a0_0, .int .i64 a0_1, .slice A0_2 l0_2.length c0_2] 24 (0, 0)) B433.out k_ hk_), (Kd.freshB (g := gb434) (o := .cells #[.int .i64 a1_0, .int .i64 a1_1, .slice A1_2 l1_2.length c1_2] 24 (0, 0)) B434.out k_ hk_)⟩)) (below_size Xi))
     replace HO441 := Am (Kd.S_elder' (Xq HO441) (Kd.N_base ho0) hb)
     replace HO446 := Am (Kd.S_elder' (Xq HO446) (Kd.N_base ho0) hb)
     replace B433 := Xbb B433 hb
     replace B434 := Xbb B434 hb
     replace HB := Xhb hb
     try clear hb
     try clear hb2
     try clear hk
     try clear hi
     try clear ho0
     refine hK.out _ _ ⟨Xk B433 0, Xk B433 1, Xk B433 2, Xk B434 0, Xk B434 1, Xk B434 2⟩ (fun hHeld => ?_)
     clear hK K
     refine Xno ?_
     refine Pu 5 27 11 63 ?_
     refine Pu 6 33 11 127 ?_
     refine Pu 7 34 11 255 ?_
     refine On 8 6 11 511 (fun K hK => ?_)
     refine box_step ?hg (N := 6) ?hd (cs := #[.int .i64 0, .int .i64 0, .slice none 0 0]) (t := 29) ?hr ?_; (case hd => rfl); (case hg => rfl); (case hr => first | (go_simp; done) | (go_simp; rfl))
     intro gb453 hg w30 hbox hb
     replace HO441 := Am (Kd.S_below (Xq HO441) hb)
     replace HO446 := Am (Kd.S_below (Xq HO446) hb)
     replace HO451 := Am (Kd.N_below (Kd.N_elderB (Xq HO451) gb453 (Nat.le_of_eq hg.symm)) hb)
     have B453 := Am (hbox)
     have GW453 := Am ((by rw [hg]; exact (below_size Xi) : w.heap.size ≤ gb453))
     have GE453 := Am ((by rw [hg]; exact (below_size Xi) : w.heap.size ≤ gb453))
     replace HB := Xhb hb
     have NB433_453 := Am ((by rw [hg]; exact Nat.ne_of_lt (blk_lt (g := gb433) (o := .cells #[.int .i64 a0_0, .int .i64 a0_1, .slice A0_2 l0_2.length c0_2] 24 (0, 0)) B433.out) : gb433 ≠ gb453))
     have NB453_433 := Am ((by rw [hg]; exact Nat.ne_of_gt (blk_lt (g := gb433) (o := .cells #[.int .i64 a0_0, .int .i64 a0_1, .slice A0_2 l0_2.length c0_2] 24 (0, 0)) B433.out) : gb453 ≠ gb433))
     replace B433 := Xbb B433 hb
     have NB434_453 := Am ((by rw [hg]; exact Nat.ne_of_lt (blk_lt (g := gb434) (o := .cells #[.int .i64 a1_0, .int .i64 a1_1, .slice A1_2 l1_2.length c1_2] 24 (0, 0)) B434.out) : gb434 ≠ gb453))
     have NB453_434 := Am ((by rw [hg]; exact Nat.ne_of_gt (blk_lt (g := gb434) (o := .cells #[.int .i64 a1_0, .int .i64 a1_1, .slice A1_2 l1_2.length c1_2] 24 (0, 0)) B434.out) : gb453 ≠ gb434))
     replace B434 := Xbb B434 hb
     clear hb hbox hg
     refine hK.out _ _ ⟨Xk B433 0, Xk B433 1, Xk B433 2, Xk B434 0, Xk B434 1, Xk B434 2⟩ (fun hHeld => ?_)
     clear hK K
     refine Xno ?_
     exact norm_ (by simp only [putAll, Act.put, List.setIfInBounds_toArray, List.set_cons_zero, List.set_cons_succ]) (hCont (.slice Ao27 t439.length co27, .slice Ao28 t444.length co28, v450, gb453, z1_, z2_) _ ⟨hHeld, (by (with_reducible repeat (first | apply Kd.S_alloc | apply Kd.S_drewN | apply Kd.S_drew)); exact Kd.S_mono HO441.out (fun _ hk => ⟨hk.1.1.2, ⟨hk.2, ⟨hk.1.1.1.2, hk.1.2⟩⟩⟩)), (by (with_reducible repeat (first | apply Kd.S_alloc | apply Kd.S_drewN | apply Kd.S_drew)); exact Kd.S_mono HO446.out (fun _ hk => ⟨hk.1.2, ⟨hk.2, hk.1.1.2⟩⟩)), (by (with_reducible repeat (first | apply Kd.N_alloc | apply Kd.N_drewN | apply Kd.N_drew)); exact Kd.N_mono HO451.out (fun _ hk => ⟨hk.1.1, ⟨hk.1.2.1, ⟨hk.1.2.2.1, ⟨hk.1.2.2.2, hk.2⟩⟩⟩⟩)), B433.out, B434.out, B453.out, GW453.out, GE453.out, NB433_453.out, NB453_433.out, NB434_453.out, NB453_434.out, Xi⟩)
    skip
    refine box_step ?hg (N := 6) ?hd (cs := #[.int .i64 0, .int .i64 0, .slice none 0 0]) (t := 29) ?hr ?_; (case hd => rfl); (case hg => rfl); (case hr => first | (go_simp; done) | (go_simp; rfl))
    intro gb453 hg w27 hbox hb
    replace HO441 := Am (Kd.S_below (Xq HO441) hb)
    replace HO446 := Am (Kd.S_below (Xq HO446) hb)
    have B453 := Am (hbox)
    have GW453 := Am ((by rw [hg]; exact (below_size Xi) : w.heap.size ≤ gb453))
    have GE453 := Am ((by rw [hg]; exact (below_size Xi) : w.heap.size ≤ gb453))
    replace HB := Xhb hb
    have NB433_453 := Am ((by rw [hg]; exact Nat.ne_of_lt (blk_lt (g := gb433) (o := .cells #[.int .i64 a0_0, .int .i64 a0_1, .slice A0_2 l0_2.length c0_2] 24 (0, 0)) B433.out) : gb433 ≠ gb453))
    have NB453_433 := Am ((by rw [hg]; exact Nat.ne_of_gt (blk_lt (g := gb433) (o := .cells #[.int .i64 a0_0, .int .i64 a0_1, .slice A0_2 l0_2.length c0_2] 24 (0, 0)) B433.out) : gb453 ≠ gb433))
    replace B433 := Xbb B433 hb
    have NB434_453 := Am ((by rw [hg]; exact Nat.ne_of_lt (blk_lt (g := gb434) (o := .cells #[.int .i64 a1_0, .int .i64 a1_1, .slice A1_2 l1_2.length c1_2] 24 (0, 0)) B434.out) : gb434 ≠ gb453))
    have NB453_434 := Am ((by rw [hg]; exact Nat.ne_of_gt (blk_lt (g := gb434) (o := .cells #[.int .i64 a1_0, .int .i64 a1_1, .slice A1_2 l1_2.length c1_2] 24 (0, 0)) B434.out) : gb453 ≠ gb434))
    replace B434 := Xbb B434 hb
    clear hb hbox hg
    obtain ⟨Ao28, co28, eo28⟩ := Kd.S_slice HO441.out
    (first | subst eo28 | (injection eo28 with f1_ f2_ f3_; have f4_ := f1_.symm; have f5_ := f3_.symm; clear f1_ f2_ f3_; subst f4_; subst f5_))
    obtain ⟨Ao29, co29, eo29⟩ := Kd.S_slice HO446.out
    (first | subst eo29 | (injection eo29 with f1_ f2_ f3_; have f4_ := f1_.symm; have f5_ := f3_.symm; clear f1_ f2_ f3_; subst f4_; subst f5_))
    refine hK.out _ _ ⟨Xk B433 0, Xk B433 1, Xk B433 2, Xk B434 0, Xk B434 1, Xk B434 2⟩ (fun hHeld => ?_)
    clear hK K
    refine Xno ?_
    refine On 4 32 11 287 (fun K hK => ?_)
    refine Gs Try.func48 #[.agg #[.int .i64 t437, .int .i64 t438, .slice Ao28 t439.length co28], .agg #[.int .i64 t442, .int .i64 t443, .slice Ao29 t444.length co29]] ?_
    with_reducible refine (spec_SpliceSub.calls k t437 t438 _ _ t439 t442 t443 _ _ t444 t447 t448 t449 t452 _ ?s1 ?s2 ?s3 ?s4 A19.out).mono ?_
    (case s1 => exact Xcd (Kd.S_reads' HO441.out).2.2)
    (case s2 => exact (Kd.S_reads' HO441.out).2.1)
    (case s3 => exact Xcd (Kd.S_reads' HO446.out).2.2)
    (case s4 => exact (Kd.S_reads' HO446.out).2.1)
    rintro e w30 ⟨v450, rfl, ho0, hb⟩
    refine ⟨_, rfl, ?_⟩
    have HO451 := Am (Kd.N_lower (Kd.N_mono (ok' := fun k_ => some k_ ≠ (.slice Ao28 t439.length co28 : Value).ownBlock ∧ some k_ ≠ (.slice Ao29 t444.length co29 : Value).ownBlock ∧ k_ ≠ gb433 ∧ k_ ≠ gb434 ∧ k_ ≠ gb453) ho0 (fun k_ hk_ => ⟨(Kd.fresh' (Kd.S_lt (Xq HO441)) k_ hk_), (Kd.fresh' (Kd.S_lt (Xq HO446)) k_ hk_), (Kd.freshB (g := gb433) (o := .cells #[.int .i64 a0_0, .int .i64 a0_1, .slice A0_2 l0_2.length c0_2] 24 (0, 0)) B433.out k_ hk_), (Kd.freshB (g := gb434) (o := .cells #[.int .i64 a1_0, .int .i64 a1_1, .slice A1_2 l1_2.length c1_2] 24 (0, 0)) B434.out k_ hk_), (Kd.freshB (g := gb453) (o := .cells #[.int .i64 0, .int .i64 0, .slice none 0 0] 29 (0, 0)) B453.out k_ hk_)⟩)) (below_size Xi))
    replace HO441 := Am (Kd.S_elder' (Xq HO441) (Kd.N_base ho0) hb)
    replace HO446 := Am (Kd.S_elder' (Xq HO446) (Kd.N_base ho0) hb)
    replace B433 := Xbb B433 hb
    replace B434 := Xbb B434 hb
    replace B453 := Xbb B453 hb
    replace HB := Xhb hb
    try clear hb
    try clear hb2
    try clear hk
    try clear hi
    try clear ho0
    refine hK.out _ _ ⟨Xk B433 0, Xk B433 1, Xk B433 2, Xk B434 0, Xk B434 1, Xk B434 2⟩ (fun hHeld => ?_)
    clear hK K
    refine Xno ?_
    refine Pu 5 27 11 319 ?_
    refine Pu 6 33 11 383 ?_
    refine Pu 7 34 11 511 ?_
    exact norm_ (by simp only [putAll, Act.put, List.setIfInBounds_toArray, List.set_cons_zero, List.set_cons_succ]) (hCont (.slice Ao28 t439.length co28, .slice Ao29 t444.length co29, v450, gb453, z1_, z2_) _ ⟨hHeld, (by (with_reducible repeat (first | apply Kd.S_alloc | apply Kd.S_drewN | apply Kd.S_drew)); exact Kd.S_mono HO441.out (fun _ hk => ⟨hk.1.1.2, ⟨hk.2, ⟨hk.1.1.1.2, hk.1.2⟩⟩⟩)), (by (with_reducible repeat (first | apply Kd.S_alloc | apply Kd.S_drewN | apply Kd.S_drew)); exact Kd.S_mono HO446.out (fun _ hk => ⟨hk.1.2, ⟨hk.2, hk.1.1.2⟩⟩)), (Xq HO451), B433.out, B434.out, B453.out, GW453.out, GE453.out, NB433_453.out, NB453_433.out, NB434_453.out, NB453_434.out, Xi⟩)
   skip
   refine box_step ?hg (N := 6) ?hd (cs := #[.int .i64 0, .int .i64 0, .slice none 0 0]) (t := 29) ?hr ?_; (case hd => rfl); (case hg => rfl); (case hr => first | (go_simp; done) | (go_simp; rfl))
   intro gb453 hg w26 hbox hb
   replace HO441 := Am (Kd.S_below (Xq HO441) hb)
   have B453 := Am (hbox)
   have GW453 := Am ((by rw [hg]; exact (below_size Xi) : w.heap.size ≤ gb453))
   have GE453 := Am ((by rw [hg]; exact (below_size Xi) : w.heap.size ≤ gb453))
   replace HB := Xhb hb
   have NB433_453 := Am ((by rw [hg]; exact Nat.ne_of_lt (blk_lt (g := gb433) (o := .cells #[.int .i64 a0_0, .int .i64 a0_1, .slice A0_2 l0_2.length c0_2] 24 (0, 0)) B433.out) : gb433 ≠ gb453))
   have NB453_433 := Am ((by rw [hg]; exact Nat.ne_of_gt (blk_lt (g := gb433) (o := .cells #[.int .i64 a0_0, .int .i64 a0_1, .slice A0_2 l0_2.length c0_2] 24 (0, 0)) B433.out) : gb453 ≠ gb433))
   replace B433 := Xbb B433 hb
   have NB434_453 := Am ((by rw [hg]; exact Nat.ne_of_lt (blk_lt (g := gb434) (o := .cells #[.int .i64 a1_0, .int .i64 a1_1, .slice A1_2 l1_2.length c1_2] 24 (0, 0)) B434.out) : gb434 ≠ gb453))
   have NB453_434 := Am ((by rw [hg]; exact Nat.ne_of_gt (blk_lt (g := gb434) (o := .cells #[.int .i64 a1_0, .int .i64 a1_1, .slice A1_2 l1_2.length c1_2] 24 (0, 0)) B434.out) : gb453 ≠ gb434))
   replace B434 := Xbb B434 hb
   clear hb hbox hg
   refine hK.out _ _ ⟨Xk B433 0, Xk B433 1, Xk B433 2, Xk B434 0, Xk B434 1, Xk B434 2⟩ (fun hHeld => ?_)
   clear hK K
   refine Xno ?_
   refine On 3 31 11 271 (fun K hK => ?_)
   refine Gs Try.func15 #[.agg #[.int .i64 a1_0, .int .i64 a1_1, .slice A1_2 l1_2.length c1_2]] ?_
   with_reducible refine (laws_toDoc.calls k a1_0 a1_1 _ _ l1_2 t442 t443 t444 _ ?s1 ?s2 A18.out).mono ?_
   (case s1 => exact Xc HR1_2)
   (case s2 => exact HC1_2.out)
   rintro e w27 ⟨v445, rfl, ho0, hb⟩
   refine ⟨_, rfl, ?_⟩
   obtain ⟨z6_, hzz6_⟩ := XR.zat ho0
   have HO446 := Am (Kd.S_lower (Kd.S_new' (XR.S_newZ ho0 hzz6_) (Kd.S_lt (Xq HO441))) (below_size Xi))
   replace HO441 := Am (XR.S_elderZ (Xq HO441) (Kd.S_base ho0) hb hzz6_)
   replace B433 := Xbb B433 hb
   replace B434 := Xbb B434 hb
   replace B453 := Xbb B453 hb
   replace HB := Xhb hb
   try clear hb
   try clear hb2
   try clear hk
   try clear hi
   try clear ho0
   try clear hzz6_
   obtain ⟨Ao28, co28, eo28⟩ := Kd.S_slice HO441.out
   (first | subst eo28 | (injection eo28 with f1_ f2_ f3_; have f4_ := f1_.symm; have f5_ := f3_.symm; clear f1_ f2_ f3_; subst f4_; subst f5_))
   obtain ⟨Ao29, co29, eo29⟩ := Kd.S_slice HO446.out
   (first | subst eo29 | (injection eo29 with f1_ f2_ f3_; have f4_ := f1_.symm; have f5_ := f3_.symm; clear f1_ f2_ f3_; subst f4_; subst f5_))
   refine hK.out _ _ ⟨Xk B433 0, Xk B433 1, Xk B433 2, Xk B434 0, Xk B434 1, Xk B434 2⟩ (fun hHeld => ?_)
   clear hK K
   refine Xno ?_
   refine On 4 32 11 287 (fun K hK => ?_)
   refine Gs Try.func48 #[.agg #[.int .i64 t437, .int .i64 t438, .slice Ao28 t439.length co28], .agg #[.int .i64 t442, .int .i64 t443, .slice Ao29 t444.length co29]] ?_
   with_reducible refine (spec_SpliceSub.calls k t437 t438 _ _ t439 t442 t443 _ _ t444 t447 t448 t449 t452 _ ?s1 ?s2 ?s3 ?s4 A19.out).mono ?_
   (case s1 => exact Xcd (Kd.S_reads' HO441.out).2.2)
   (case s2 => exact (Kd.S_reads' HO441.out).2.1)
   (case s3 => exact Xcd (Kd.S_reads' HO446.out).2.2)
   (case s4 => exact (Kd.S_reads' HO446.out).2.1)
   rintro e w30 ⟨v450, rfl, ho0, hb⟩
   refine ⟨_, rfl, ?_⟩
   have HO451 := Am (Kd.N_lower (Kd.N_mono (ok' := fun k_ => some k_ ≠ (.slice Ao28 t439.length co28 : Value).ownBlock ∧ some k_ ≠ (.slice Ao29 t444.length co29 : Value).ownBlock ∧ k_ ≠ gb433 ∧ k_ ≠ gb434 ∧ k_ ≠ gb453) ho0 (fun k_ hk_ => ⟨(Kd.fresh' (Kd.S_lt (Xq HO441)) k_ hk_), (Kd.fresh' (Kd.S_lt (Xq HO446)) k_ hk_), (Kd.freshB (g := gb433) (o := .cells #[.int .i64 a0_0, .int .i64 a0_1, .slice A0_2 l0_2.length c0_2] 24 (0, 0)) B433.out k_ hk_), (Kd.freshB (g := gb434) (o := .cells #[.int .i64 a1_0, .int .i64 a1_1, .slice A1_2 l1_2.length c1_2] 24 (0, 0)) B434.out k_ hk_), (Kd.freshB (g := gb453) (o := .cells #[.int .i64 0, .int .i64 0, .slice none 0 0] 29 (0, 0)) B453.out k_ hk_)⟩)) (below_size Xi))
   replace HO441 := Am (Kd.S_elder' (Xq HO441) (Kd.N_base ho0) hb)
   replace HO446 := Am (Kd.S_elder' (Xq HO446) (Kd.N_base ho0) hb)
   replace B433 := Xbb B433 hb
   replace B434 := Xbb B434 hb
   replace B453 := Xbb B453 hb
   replace HB := Xhb hb
   try clear hb
   try clear hb2
   try clear hk
   try clear hi
   try clear ho0
   refine hK.out _ _ ⟨Xk B433 0, Xk B433 1, Xk B433 2, Xk B434 0, Xk B434 1, Xk B434 2⟩ (fun hHeld => ?_)
   clear hK K
   refine Xno ?_
   refine Pu 5 27 11 319 ?_
   refine Pu 6 33 11 383 ?_
   refine Pu 7 34 11 511 ?_
   exact norm_ (by simp only [putAll, Act.put, List.setIfInBounds_toArray, List.set_cons_zero, List.set_cons_succ]) (hCont (.slice Ao28 t439.length co28, .slice Ao29 t444.length co29, v450, gb453, z1_, z6_) _ ⟨hHeld, (by (with_reducible repeat (first | apply Kd.S_alloc | apply Kd.S_drewN | apply Kd.S_drew)); exact Kd.S_mono HO441.out (fun _ hk => ⟨hk.1.1.2, ⟨hk.2, ⟨hk.1.1.1.2, hk.1.2⟩⟩⟩)), (by (with_reducible repeat (first | apply Kd.S_alloc | apply Kd.S_drewN | apply Kd.S_drew)); exact Kd.S_mono HO446.out (fun _ hk => ⟨hk.1.2, ⟨hk.2, hk.1.1.2⟩⟩)), (Xq HO451), B433.out, B434.out, B453.out, GW453.out, GE453.out, NB433_453.out, NB453_433.out, NB434_453.out, NB453_434.out, Xi⟩)
  skip
  refine box_step ?hg (N := 6) ?hd (cs := #[.int .i64 0, .int .i64 0, .slice none 0 0]) (t := 29) ?hr ?_; (case hd => rfl); (case hg => rfl); (case hr => first | (go_simp; done) | (go_simp; rfl))
  intro gb453 hg w25 hbox hb
  have B453 := Am (hbox)
  have GW453 := Am ((by rw [hg]; exact (below_size Xi) : w.heap.size ≤ gb453))
  have GE453 := Am ((by rw [hg]; exact (below_size Xi) : w.heap.size ≤ gb453))
  replace HB := Xhb hb
  have NB433_453 := Am ((by rw [hg]; exact Nat.ne_of_lt (blk_lt (g := gb433) (o := .cells #[.int .i64 a0_0, .int .i64 a0_1, .slice A0_2 l0_2.length c0_2] 24 (0, 0)) B433.out) : gb433 ≠ gb453))
  have NB453_433 := Am ((by rw [hg]; exact Nat.ne_of_gt (blk_lt (g := gb433) (o := .cells #[.int .i64 a0_0, .int .i64 a0_1, .slice A0_2 l0_2.length c0_2] 24 (0, 0)) B433.out) : gb453 ≠ gb433))
  replace B433 := Xbb B433 hb
  have NB434_453 := Am ((by rw [hg]; exact Nat.ne_of_lt (blk_lt (g := gb434) (o := .cells #[.int .i64 a1_0, .int .i64 a1_1, .slice A1_2 l1_2.length c1_2] 24 (0, 0)) B434.out) : gb434 ≠ gb453))
  have NB453_434 := Am ((by rw [hg]; exact Nat.ne_of_gt (blk_lt (g := gb434) (o := .cells #[.int .i64 a1_0, .int .i64 a1_1, .slice A1_2 l1_2.length c1_2] 24 (0, 0)) B434.out) : gb453 ≠ gb434))
  replace B434 := Xbb B434 hb
  clear hb hbox hg
  refine hK.out _ _ ⟨Xk B433 0, Xk B433 1, Xk B433 2, Xk B434 0, Xk B434 1, Xk B434 2⟩ (fun hHeld => ?_)
  clear hK K
  refine Xno ?_
  refine On 1 29 11 263 (fun K hK => ?_)
  refine Gs Try.func15 #[.agg #[.int .i64 a0_0, .int .i64 a0_1, .slice A0_2 l0_2.length c0_2]] ?_
  with_reducible refine (laws_toDoc.calls k a0_0 a0_1 _ _ l0_2 t437 t438 t439 _ ?s1 ?s2 A17.out).mono ?_
  (case s1 => exact Xc HR0_2)
  (case s2 => exact HC0_2.out)
  rintro e w26 ⟨v440, rfl, ho0, hb⟩
  refine ⟨_, rfl, ?_⟩
  obtain ⟨z7_, hzz7_⟩ := XR.zat ho0
  have HO441 := Am (Kd.S_lower (XR.S_newZ ho0 hzz7_) (below_size Xi))
  replace B433 := Xbb B433 hb
  replace B434 := Xbb B434 hb
  replace B453 := Xbb B453 hb
  replace HB := Xhb hb
  try clear hb
  try clear hb2
  try clear hk
  try clear hi
  try clear ho0
  try clear hzz7_
  refine hK.out _ _ ⟨Xk B433 0, Xk B433 1, Xk B433 2, Xk B434 0, Xk B434 1, Xk B434 2⟩ (fun hHeld => ?_)
  clear hK K
  refine Xno ?_
  refine On 3 31 11 271 (fun K hK => ?_)
  refine Gs Try.func15 #[.agg #[.int .i64 a1_0, .int .i64 a1_1, .slice A1_2 l1_2.length c1_2]] ?_
  with_reducible refine (laws_toDoc.calls k a1_0 a1_1 _ _ l1_2 t442 t443 t444 _ ?s1 ?s2 A18.out).mono ?_
  (case s1 => exact Xc HR1_2)
  (case s2 => exact HC1_2.out)
  rintro e w27 ⟨v445, rfl, ho0, hb⟩
  refine ⟨_, rfl, ?_⟩
  obtain ⟨z8_, hzz8_⟩ := XR.zat ho0
  have HO446 := Am (Kd.S_lower (Kd.S_new' (XR.S_newZ ho0 hzz8_) (Kd.S_lt (Xq HO441))) (below_size Xi))
  replace HO441 := Am (XR.S_elderZ (Xq HO441) (Kd.S_base ho0) hb hzz8_)
  replace B433 := Xbb B433 hb
  replace B434 := Xbb B434 hb
  replace B453 := Xbb B453 hb
  replace HB := Xhb hb
  try clear hb
  try clear hb2
  try clear hk
  try clear hi
  try clear ho0
  try clear hzz8_
  obtain ⟨Ao28, co28, eo28⟩ := Kd.S_slice HO441.out
  (first | subst eo28 | (injection eo28 with f1_ f2_ f3_; have f4_ := f1_.symm; have f5_ := f3_.symm; clear f1_ f2_ f3_; subst f4_; subst f5_))
  obtain ⟨Ao29, co29, eo29⟩ := Kd.S_slice HO446.out
  (first | subst eo29 | (injection eo29 with f1_ f2_ f3_; have f4_ := f1_.symm; have f5_ := f3_.symm; clear f1_ f2_ f3_; subst f4_; subst f5_))
  refine hK.out _ _ ⟨Xk B433 0, Xk B433 1, Xk B433 2, Xk B434 0, Xk B434 1, Xk B434 2⟩ (fun hHeld => ?_)
  clear hK K
  refine Xno ?_
  refine On 4 32 11 287 (fun K hK => ?_)
  refine Gs Try.func48 #[.agg #[.int .i64 t437, .int .i64 t438, .slice Ao28 t439.length co28], .agg #[.int .i64 t442, .int .i64 t443, .slice Ao29 t444.length co29]] ?_
  with_reducible refine (spec_SpliceSub.calls k t437 t438 _ _ t439 t442 t443 _ _ t444 t447 t448 t449 t452 _ ?s1 ?s2 ?s3 ?s4 A19.out).mono ?_
  (case s1 => exact Xcd (Kd.S_reads' HO441.out).2.2)
  (case s2 => exact (Kd.S_reads' HO441.out).2.1)
  (case s3 => exact Xcd (Kd.S_reads' HO446.out).2.2)
  (case s4 => exact (Kd.S_reads' HO446.out).2.1)
  rintro e w30 ⟨v450, rfl, ho0, hb⟩
  refine ⟨_, rfl, ?_⟩
  have HO451 := Am (Kd.N_lower (Kd.N_mono (ok' := fun k_ => some k_ ≠ (.slice Ao28 t439.length co28 : Value).ownBlock ∧ some k_ ≠ (.slice Ao29 t444.length co29 : Value).ownBlock ∧ k_ ≠ gb433 ∧ k_ ≠ gb434 ∧ k_ ≠ gb453) ho0 (fun k_ hk_ => ⟨(Kd.fresh' (Kd.S_lt (Xq HO441)) k_ hk_), (Kd.fresh' (Kd.S_lt (Xq HO446)) k_ hk_), (Kd.freshB (g := gb433) (o := .cells #[.int .i64 a0_0, .int .i64 a0_1, .slice A0_2 l0_2.length c0_2] 24 (0, 0)) B433.out k_ hk_), (Kd.freshB (g := gb434) (o := .cells #[.int .i64 a1_0, .int .i64 a1_1, .slice A1_2 l1_2.length c1_2] 24 (0, 0)) B434.out k_ hk_), (Kd.freshB (g := gb453) (o := .cells #[.int .i64 0, .int .i64 0, .slice none 0 0] 29 (0, 0)) B453.out k_ hk_)⟩)) (below_size Xi))
  replace HO441 := Am (Kd.S_elder' (Xq HO441) (Kd.N_base ho0) hb)
  replace HO446 := Am (Kd.S_elder' (Xq HO446) (Kd.N_base ho0) hb)
  replace B433 := Xbb B433 hb
  replace B434 := Xbb B434 hb
  replace B453 := Xbb B453 hb
  replace HB := Xhb hb
  try clear hb
  try clear hb2
  try clear hk
  try clear hi
  try clear ho0
  refine hK.out _ _ ⟨Xk B433 0, Xk B433 1, Xk B433 2, Xk B434 0, Xk B434 1, Xk B434 2⟩ (fun hHeld => ?_)
  clear hK K
  refine Xno ?_
  refine Pu 5 27 11 319 ?_
  refine Pu 6 33 11 383 ?_
  refine Pu 7 34 11 511 ?_
  exact norm_ (by simp only [putAll, Act.put, List.setIfInBounds_toArray, List.set_cons_zero, List.set_cons_succ]) (hCont (.slice Ao28 t439.length co28, .slice Ao29 t444.length co29, v450, gb453, z7_, z8_) _ ⟨hHeld, (by (with_reducible repeat (first | apply Kd.S_alloc | apply Kd.S_drewN | apply Kd.S_drew)); exact Kd.S_mono HO441.out (fun _ hk => ⟨hk.1.1.2, ⟨hk.2, ⟨hk.1.1.1.2, hk.1.2⟩⟩⟩)), (by (with_reducible repeat (first | apply Kd.S_alloc | apply Kd.S_drewN | apply Kd.S_drew)); exact Kd.S_mono HO446.out (fun _ hk => ⟨hk.1.2, ⟨hk.2, hk.1.1.2⟩⟩)), (Xq HO451), B433.out, B434.out, B453.out, GW453.out, GE453.out, NB433_453.out, NB453_433.out, NB434_453.out, NB453_434.out, Xi⟩)
 rintro ⟨v440, v445, v450, gb453, z9_, z10_⟩ w31 ⟨hS_, h0_, h1_, h2_, h3_, h4_, h5_, h6_, h7_, h8_, h9_, h10_, h11_, h12_⟩
 have n0_ : Aside0 (Kd.S k43 43 w31 w.heap.size (fun k_ => some k_ ≠ (v445 : Value).ownBlock ∧ some k_ ≠ (v450 : Value).ownBlock ∧ k_ ≠ XR.zge z9_ k_ ∧ k_ ≠ XR.zlt z10_ k_) v440 t439) := ⟨h0_⟩
 have n1_ : Aside0 (Kd.S k43 43 w31 w.heap.size (fun k_ => some k_ ≠ (v440 : Value).ownBlock ∧ some k_ ≠ (v450 : Value).ownBlock ∧ k_ ≠ XR.zge z10_ k_) v445 t444) := ⟨h1_⟩
 have n2_ : Aside0 (Kd.N k43 43 w31 w.heap.size (fun k_ => some k_ ≠ (v440 : Value).ownBlock ∧ some k_ ≠ (v445 : Value).ownBlock ∧ k_ ≠ gb433 ∧ k_ ≠ gb434 ∧ k_ ≠ gb453) v450 t449) := ⟨h2_⟩
 have n3_ : Aside0 (w31.heap[gb433]? = some (.cells #[.int .i64 a0_0, .int .i64 a0_1, .slice A0_2 l0_2.length c0_2] 24 (0, 0))) := ⟨h3_⟩
 have n4_ : Aside0 (w31.heap[gb434]? = some (.cells #[.int .i64 a1_0, .int .i64 a1_1, .slice A1_2 l1_2.length c1_2] 24 (0, 0))) := ⟨h4_⟩
 have n5_ : Aside0 (w31.heap[gb453]? = some (.cells #[.int .i64 0, .int .i64 0, .slice none 0 0] 29 (0, 0))) := ⟨h5_⟩
 have n6_ : Aside0 (w.heap.size ≤ gb453) := ⟨h6_⟩
 have n7_ : Aside0 (w.heap.size ≤ gb453) := ⟨h7_⟩
 have n8_ : Aside0 (gb433 ≠ gb453) := ⟨h8_⟩
 have n9_ : Aside0 (gb453 ≠ gb433) := ⟨h9_⟩
 have n10_ : Aside0 (gb434 ≠ gb453) := ⟨h10_⟩
 have n11_ : Aside0 (gb453 ≠ gb434) := ⟨h11_⟩
 have n12_ : Aside0 (Below w.heap.size w w31) := ⟨h12_⟩
 clear B433
 clear B434
 clear HB
 clear h0_ h1_ h2_ h3_ h4_ h5_ h6_ h7_ h8_ h9_ h10_ h11_ h12_
 have HO441 := n0_
 have HO446 := n1_
 have HO451 := n2_
 have B433 := n3_
 have B434 := n4_
 have B453 := n5_
 have GW453 := n6_
 have GE453 := n7_
 have NB433_453 := n8_
 have NB453_433 := n9_
 have NB434_453 := n10_
 have NB453_434 := n11_
 have HB := n12_
 clear n0_ n1_ n2_ n3_ n4_ n5_ n6_ n7_ n8_ n9_ n10_ n11_ n12_
 have hHeld : w31.cell? ⟨gb433, 0, none⟩ = some (.int .i64 a0_0) ∧ w31.cell? ⟨gb433, 1, none⟩ = some (.int .i64 a0_1) ∧ w31.cell? ⟨gb433, 2, none⟩ = some (.slice A0_2 l0_2.length c0_2) ∧ w31.cell? ⟨gb434, 0, none⟩ = some (.int .i64 a1_0) ∧ w31.cell? ⟨gb434, 1, none⟩ = some (.int .i64 a1_1) ∧ w31.cell? ⟨gb434, 2, none⟩ = some (.slice A1_2 l1_2.length c1_2) := hS_
 obtain ⟨Ao34, co34, eo34⟩ := Kd.N_slice HO451.out
 (first | subst eo34 | (injection eo34 with f1_ f2_ f3_; have f4_ := f1_.symm; have f5_ := f3_.symm; clear f1_ f2_ f3_; subst f4_; subst f5_))
 refine norm_ (a' := ?_) ?_ ?_
 rotate_left
 ·simp only [putAll, Act.put, List.setIfInBounds_toArray, List.set_cons_zero, List.set_cons_succ]
  rfl
 refine one_ (i := 9) (N := none) (XW.bs 11 1023) rfl rfl (one_of HT_.out (by kernel_rfl)) (by decide) (fun K hK => ?_)
 have hs32 : w31.cell? ⟨gb453, 0, none⟩ = some (.int .i64 0) := Xk B453 0
 have hfs32 := blk_frozen B453.out 0
 have hns32_0 := NB433_453.out
 have hns32_1 := NB434_453.out
 have hms32_0 := NB453_433.out
 have hms32_1 := NB453_434.out
 have hs33 : w31.cell? ⟨gb453, 1, none⟩ = some (.int .i64 0) := Xk B453 1
 have hfs33 := blk_frozen B453.out 1
 have hns33_0 := NB433_453.out
 have hns33_1 := NB434_453.out
 have hms33_0 := NB453_433.out
 have hms33_1 := NB453_434.out
 have hs35 : w31.cell? ⟨gb453, 2, none⟩ = some (.slice none 0 0) := Xk B453 2
 have hfs35 := blk_frozen B453.out 2
 have hns35_0 := NB433_453.out
 have hns35_1 := NB434_453.out
 have hms35_0 := NB453_433.out
 have hms35_1 := NB453_434.out
 refine skip_ (w1 := ?_) (by rfl) rfl ?_ ?_
 rotate_left
 ·go_simp
  rfl
 refine hK.out _ _ ⟨((cell_far (p := ⟨gb453, _, none⟩) NB433_453.out _).trans (((cell_far (p := ⟨gb453, _, none⟩) NB433_453.out _).trans (((cell_far (p := ⟨gb453, _, none⟩) NB433_453.out _).trans (hHeld.1)))))), ((cell_far (p := ⟨gb453, _, none⟩) NB433_453.out _).trans (((cell_far (p := ⟨gb453, _, none⟩) NB433_453.out _).trans (((cell_far (p := ⟨gb453, _, none⟩) NB433_453.out _).trans (hHeld.2.1)))))), ((cell_far (p := ⟨gb453, _, none⟩) NB433_453.out _).trans (((cell_far (p := ⟨gb453, _, none⟩) NB433_453.out _).trans (((cell_far (p := ⟨gb453, _, none⟩) NB433_453.out _).trans (hHeld.2.2.1)))))), ((cell_far (p := ⟨gb453, _, none⟩) NB434_453.out _).trans (((cell_far (p := ⟨gb453, _, none⟩) NB434_453.out _).trans (((cell_far (p := ⟨gb453, _, none⟩) NB434_453.out _).trans (hHeld.2.2.2.1)))))), ((cell_far (p := ⟨gb453, _, none⟩) NB434_453.out _).trans (((cell_far (p := ⟨gb453, _, none⟩) NB434_453.out _).trans (((cell_far (p := ⟨gb453, _, none⟩) NB434_453.out _).trans (hHeld.2.2.2.2.1)))))), ((cell_far (p := ⟨gb453, _, none⟩) NB434_453.out _).trans (((cell_far (p := ⟨gb453, _, none⟩) NB434_453.out _).trans (((cell_far (p := ⟨gb453, _, none⟩) NB434_453.out _).trans (hHeld.2.2.2.2.2))))))⟩ (fun hHeld => ?_)
 clear hK K
 refine Pu 10 7 11 2047 ?_
 refine Dn ?_
 have hnb36 := NB433_434.out
 have hnc36 := NB434_433.out
 have hnb37 := NB433_453.out
 have hnc37 := NB453_433.out
 obtain ⟨Z38_0, Z38_1, Z38_2⟩ := Xc3 B433
 obtain ⟨F38_0, F38_1, F38_2⟩ := Xf3 B433
 go_upto_region 12 with (first | ((with_reducible refine gate_callee (f := 15) rfl ?_); refine Xgo 36 Try.func15 #[.agg #[.int .i64 a0_0, .int .i64 a0_1, .slice A0_2 l0_2.length c0_2]] ?_; (with_reducible refine (laws_toDoc.calls k a0_0 a0_1 _ _ l0_2 t454 t455 t456 _ ?s1 ?s2 A20.out).mono ?_); (case s1 => exact Xc HR0_2); (case s2 => exact HC0_2.out); rintro e w39 ⟨v457, rfl, ho0, hb⟩; refine ⟨_, rfl, ?_⟩; obtain ⟨z11_, hzz11_⟩ := XR.zat ho0; have HO458 := Am (Kd.S_lower (Kd.S_new' (Kd.S_new' (Kd.S_new' (XR.S_newZ ho0 hzz11_) (Kd.S_lt (by (with_reducible repeat (first | apply Kd.S_alloc | apply Kd.S_drewN | apply Kd.S_drew)); exact (Kd.S_mono (Kd.S_far (p := ⟨gb453, 2, none⟩) (Kd.S_far (p := ⟨gb453, 1, none⟩) (Kd.S_far (p := ⟨gb453, 0, none⟩) (Kd.S_types HO441.out B453.out (by decide)) (fun _ hk => hk.2) (.int .i64 t447)) (fun _ hk => hk.2) (.int .i64 t448)) (fun _ hk => hk.2) (.slice Ao34 t449.length co34)) (fun _ h_ => h_.1))))) (Kd.S_lt (by (with_reducible repeat (first | apply Kd.S_alloc | apply Kd.S_drewN | apply Kd.S_drew)); exact (Kd.S_mono (Kd.S_far (p := ⟨gb453, 2, none⟩) (Kd.S_far (p := ⟨gb453, 1, none⟩) (Kd.S_far (p := ⟨gb453, 0, none⟩) (Kd.S_types HO446.out B453.out (by decide)) (fun _ hk => hk.2) (.int .i64 t447)) (fun _ hk => hk.2) (.int .i64 t448)) (fun _ hk => hk.2) (.slice Ao34 t449.length co34)) (fun _ h_ => h_.1))))) (Kd.N_lt (by (with_reducible repeat (first | apply Kd.N_alloc | apply Kd.N_drewN | apply Kd.N_drew)); exact (Kd.N_mono (Kd.N_far (p := ⟨gb453, 2, none⟩) (Kd.N_far (p := ⟨gb453, 1, none⟩) (Kd.N_far (p := ⟨gb453, 0, none⟩) (Kd.N_mono HO451.out (fun k_ hk => (⟨hk, hk.2.2.2.2⟩ : _ ∧ k_ ≠ gb453))) (fun _ hk => hk.2) (.int .i64 t447)) (fun _ hk => hk.2) (.int .i64 t448)) (fun _ hk => hk.2) (.slice Ao34 t449.length co34)) (fun _ h_ => h_.1))))) (below_size Xi)); replace HO441 := Am (XR.S_elderZ (by (with_reducible repeat (first | apply Kd.S_alloc | apply Kd.S_drewN | apply Kd.S_drew)); exact (Kd.S_mono (Kd.S_far (p := ⟨gb453, 2, none⟩) (Kd.S_far (p := ⟨gb453, 1, none⟩) (Kd.S_far (p := ⟨gb453, 0, none⟩) (Kd.S_types HO441.out B453.out (by decide)) (fun _ hk => hk.2) (.int .i64 t447)) (fun _ hk => hk.2) (.int .i64 t448)) (fun _ hk => hk.2) (.slice Ao34 t449.length co34)) (fun _ h_ => h_.1))) (Kd.S_base ho0) hb hzz11_); replace HO446 := Am (XR.S_elderZ (by (with_reducible repeat (first | apply Kd.S_alloc | apply Kd.S_drewN | apply Kd.S_drew)); exact (Kd.S_mono (Kd.S_far (p := ⟨gb453, 2, none⟩) (Kd.S_far (p := ⟨gb453, 1, none⟩) (Kd.S_far (p := ⟨gb453, 0, none⟩) (Kd.S_types HO446.out B453.out (by decide)) (fun _ hk => hk.2) (.int .i64 t447)) (fun _ hk => hk.2) (.int .i64 t448)) (fun _ hk => hk.2) (.slice Ao34 t449.length co34)) (fun _ h_ => h_.1))) (Kd.S_base ho0) hb hzz11_); replace HO451 := Am (XR.N_elderZ (by (with_reducible repeat (first | apply Kd.N_alloc | apply Kd.N_drewN | apply Kd.N_drew)); exact (Kd.N_mono (Kd.N_far (p := ⟨gb453, 2, none⟩) (Kd.N_far (p := ⟨gb453, 1, none⟩) (Kd.N_far (p := ⟨gb453, 0, none⟩) (Kd.N_mono HO451.out (fun k_ hk => (⟨hk, hk.2.2.2.2⟩ : _ ∧ k_ ≠ gb453))) (fun _ hk => hk.2) (.int .i64 t447)) (fun _ hk => hk.2) (.int .i64 t448)) (fun _ hk => hk.2) (.slice Ao34 t449.length co34)) (fun _ h_ => h_.1))) (Kd.S_base ho0) hb hzz11_); replace B433 := Am (blk_below (g := gb433) (o := .cells #[.int .i64 a0_0, .int .i64 a0_1, .slice A0_2 l0_2.length c0_2] 24 (0, 0)) (by refine Xu ?_; refine blk_far ?_ NB433_453.out _; refine Xu ?_; refine blk_far ?_ NB433_453.out _; refine Xu ?_; refine blk_far ?_ NB433_453.out _; refine Xu ?_; exact B433.out) hb); replace B434 := Am (blk_below (g := gb434) (o := .cells #[.int .i64 a1_0, .int .i64 a1_1, .slice A1_2 l1_2.length c1_2] 24 (0, 0)) (by refine Xu ?_; refine blk_far ?_ NB434_453.out _; refine Xu ?_; refine blk_far ?_ NB434_453.out _; refine Xu ?_; refine blk_far ?_ NB434_453.out _; refine Xu ?_; exact B434.out) hb); replace B453 := Am (blk_below (g := gb453) (o := .cells #[.int .i64 t447, .int .i64 t448, .slice Ao34 t449.length co34] 29 (0, 0)) (by refine Xu ?_; refine blk_put (cs := #[.int .i64 t447, .int .i64 t448, .slice none 0 0]) ?_ 2 _ rfl; refine Xu ?_; refine blk_put (cs := #[.int .i64 t447, .int .i64 0, .slice none 0 0]) ?_ 1 _ rfl; refine Xu ?_; refine blk_put (cs := #[.int .i64 0, .int .i64 0, .slice none 0 0]) ?_ 0 _ rfl; refine Xu ?_; exact B453.out) hb); replace HB := Xhb hb; clear hb; (try clear ho0); (try clear hzz11_)) | ((with_reducible refine gate_dst (N := 8) rfl ?_); refine Xbox 8 #[.int .i64 0, .int .i64 0, .slice none 0 0] 29 ?_; intro gb459 hg w40 hbox hb; replace HO441 := Am (Kd.S_below (Xq HO441) hb); replace HO446 := Am (Kd.S_below (Xq HO446) hb); replace HO451 := Am (Kd.N_below (Kd.N_elderB (Xq HO451) gb459 (Nat.le_of_eq hg.symm)) hb); replace HO458 := Am (Kd.S_below (Xq HO458) hb); have B459 := Am (hbox); have GE459 := Xge hg Xi; replace HB := Xhb hb; have NB433_459 := Xnb hg B433; have NB459_433 := Xns NB433_459; replace B433 := Xbb B433 hb; have NB434_459 := Xnb hg B434; have NB459_434 := Xns NB434_459; replace B434 := Xbb B434 hb; have NB453_459 := Xnb hg B453; have NB459_453 := Xns NB453_459; replace B453 := Xbb B453 hb; clear hb hbox hg; have hnb41 := NB459_433.out; have hnc41 := NB433_459.out; have hnb42 := NB459_434.out; have hnc42 := NB434_459.out; have hnb43 := NB459_453.out; have hnc43 := NB453_459.out; obtain ⟨Z44_0, Z44_1, Z44_2⟩ := Xc3 B459; obtain ⟨F44_0, F44_1, F44_2⟩ := Xf3 B459; obtain ⟨Ao45, co45, eo45⟩ := Kd.S_slice HO458.out; subst eo45) | ((with_reducible refine gate_store (t := 29) (p := 8) rfl ?_); refine store_event (t := 29) (p := 8) (v := ?vo_w46) (w1 := (((w40.setCell ⟨gb459, 0, none⟩ (.int .i64 t454)).setCell ⟨gb459, 1, none⟩ (.int .i64 t455)).setCell ⟨gb459, 2, none⟩ (.slice Ao45 t456.length co45))) ?hg ?ho ?hn ?hr ?_; (case ho => rfl); (case hg => rfl); (case hn => rfl); (case hr => first | (go_simp; done) | (go_simp; rfl)); intro w46 hw; have n0_ : Aside0 (Kd.S k43 43 w46 w.heap.size (fun k_ => some k_ ≠ (v445 : Value).ownBlock ∧ some k_ ≠ (.slice Ao34 t449.length co34 : Value).ownBlock ∧ some k_ ≠ (.slice Ao45 t456.length co45 : Value).ownBlock ∧ k_ ≠ XR.zge z9_ k_ ∧ k_ ≠ XR.zlt z10_ k_ ∧ k_ ≠ XR.zlt z11_ k_) v440 t439) := ⟨(by rw [hw]; exact (by (with_reducible repeat (first | apply Kd.S_alloc | apply Kd.S_drewN | apply Kd.S_drew)); exact Kd.S_mono (Kd.S_far (p := ⟨gb459, 2, none⟩) (Kd.S_far (p := ⟨gb459, 1, none⟩) (Kd.S_far (p := ⟨gb459, 0, none⟩) (Kd.S_types HO441.out B459.out (by decide)) (fun _ hk => hk.2) (.int .i64 t454)) (fun _ hk => hk.2) (.int .i64 t455)) (fun _ hk => hk.2) (.slice Ao45 t456.length co45)) (fun _ hk => ⟨hk.1.1.1.1, ⟨hk.1.1.1.2.1, ⟨hk.1.1.2, ⟨hk.1.1.1.2.2.1, ⟨hk.1.1.1.2.2.2, hk.1.2⟩⟩⟩⟩⟩)))⟩; have n1_ : Aside0 (Kd.S k43 43 w46 w.heap.size (fun k_ => some k_ ≠ (v440 : Value).ownBlock ∧ some k_ ≠ (.slice Ao34 t449.length co34 : Value).ownBlock ∧ some k_ ≠ (.slice Ao45 t456.length co45 : Value).ownBlock ∧ k_ ≠ XR.zge z10_ k_ ∧ k_ ≠ XR.zlt z11_ k_) v445 t444) := ⟨(by rw [hw]; exact (by (with_reducible repeat (first | apply Kd.S_alloc | apply Kd.S_drewN | apply Kd.S_drew)); exact Kd.S_mono (Kd.S_far (p := ⟨gb459, 2, none⟩) (Kd.S_far (p := ⟨gb459, 1, none⟩) (Kd.S_far (p := ⟨gb459, 0, none⟩) (Kd.S_types HO446.out B459.out (by decide)) (fun _ hk => hk.2) (.int .i64 t454)) (fun _ hk => hk.2) (.int .i64 t455)) (fun _ hk => hk.2) (.slice Ao45 t456.length co45)) (fun _ hk => ⟨hk.1.1.1.1, ⟨hk.1.1.1.2.1, ⟨hk.1.1.2, ⟨hk.1.1.1.2.2, hk.1.2⟩⟩⟩⟩)))⟩; have n2_ : Aside0 (Kd.N k43 43 w46 w.heap.size (fun k_ => some k_ ≠ (v440 : Value).ownBlock ∧ some k_ ≠ (v445 : Value).ownBlock ∧ some k_ ≠ (.slice Ao45 t456.length co45 : Value).ownBlock ∧ k_ ≠ gb433 ∧ k_ ≠ gb434 ∧ k_ ≠ gb453 ∧ k_ ≠ XR.zlt z11_ k_ ∧ k_ ≠ gb459) (.slice Ao34 t449.length co34) t449) := ⟨(by rw [hw]; exact (by (with_reducible repeat (first | apply Kd.N_alloc | apply Kd.N_drewN | apply Kd.N_drew)); exact Kd.N_mono (Kd.N_far (p := ⟨gb459, 2, none⟩) (Kd.N_far (p := ⟨gb459, 1, none⟩) (Kd.N_far (p := ⟨gb459, 0, none⟩) (Kd.N_mono HO451.out (fun k_ hk => (⟨hk, hk.2⟩ : _ ∧ k_ ≠ gb459))) (fun _ hk => hk.2) (.int .i64 t454)) (fun _ hk => hk.2) (.int .i64 t455)) (fun _ hk => hk.2) (.slice Ao45 t456.length co45)) (fun _ hk => ⟨hk.1.1.1.1.1, ⟨hk.1.1.1.1.2.1, ⟨hk.1.1.1.2, ⟨hk.1.1.1.1.2.2.1, ⟨hk.1.1.1.1.2.2.2.1, ⟨hk.1.1.1.1.2.2.2.2, ⟨hk.1.1.2, hk.1.2⟩⟩⟩⟩⟩⟩⟩)))⟩; have n3_ : Aside0 (Kd.S k43 43 w46 w.heap.size (fun k_ => some k_ ≠ (v440 : Value).ownBlock ∧ some k_ ≠ (v445 : Value).ownBlock ∧ some k_ ≠ (.slice Ao34 t449.length co34 : Value).ownBlock ∧ k_ ≠ XR.zge z11_ k_) (.slice Ao45 t456.length co45) t456) := ⟨(by rw [hw]; exact (by (with_reducible repeat (first | apply Kd.S_alloc | apply Kd.S_drewN | apply Kd.S_drew)); exact Kd.S_mono (Kd.S_far (p := ⟨gb459, 2, none⟩) (Kd.S_far (p := ⟨gb459, 1, none⟩) (Kd.S_far (p := ⟨gb459, 0, none⟩) (Kd.S_types HO458.out B459.out (by decide)) (fun _ hk => hk.2) (.int .i64 t454)) (fun _ hk => hk.2) (.int .i64 t455)) (fun _ hk => hk.2) (.slice Ao45 t456.length co45)) (fun _ hk => ⟨hk.1.1.1.2, ⟨hk.1.1.2, ⟨hk.1.2, hk.1.1.1.1.2⟩⟩⟩)))⟩; have n4_ : Aside0 (w46.heap[gb433]? = some (.cells #[.int .i64 a0_0, .int .i64 a0_1, .slice A0_2 l0_2.length c0_2] 24 (0, 0))) := ⟨(by rw [hw]; exact (by refine Xu ?_; refine blk_far ?_ NB433_459.out _; refine Xu ?_; refine blk_far ?_ NB433_459.out _; refine Xu ?_; refine blk_far ?_ NB433_459.out _; refine Xu ?_; exact B433.out))⟩; have n5_ : Aside0 (w46.heap[gb434]? = some (.cells #[.int .i64 a1_0, .int .i64 a1_1, .slice A1_2 l1_2.length c1_2] 24 (0, 0))) := ⟨(by rw [hw]; exact (by refine Xu ?_; refine blk_far ?_ NB434_459.out _; refine Xu ?_; refine blk_far ?_ NB434_459.out _; refine Xu ?_; refine blk_far ?_ NB434_459.out _; refine Xu ?_; exact B434.out))⟩; have n6_ : Aside0 (w46.heap[gb453]? = some (.cells #[.int .i64 t447, .int .i64 t448, .slice Ao34 t449.length co34] 29 (0, 0))) := ⟨(by rw [hw]; exact (by refine Xu ?_; refine blk_far ?_ NB453_459.out _; refine Xu ?_; refine blk_far ?_ NB453_459.out _; refine Xu ?_; refine blk_far ?_ NB453_459.out _; refine Xu ?_; exact B453.out))⟩; have n7_ : Aside0 (w46.heap[gb459]? = some (.cells #[.int .i64 t454, .int .i64 t455, .slice Ao45 t456.length co45] 29 (0, 0))) := ⟨(by rw [hw]; exact (by refine Xu ?_; refine blk_put (cs := #[.int .i64 t454, .int .i64 t455, .slice none 0 0]) ?_ 2 _ rfl; refine Xu ?_; refine blk_put (cs := #[.int .i64 t454, .int .i64 0, .slice none 0 0]) ?_ 1 _ rfl; refine Xu ?_; refine blk_put (cs := #[.int .i64 0, .int .i64 0, .slice none 0 0]) ?_ 0 _ rfl; refine Xu ?_; exact B459.out))⟩; have n8_ : Aside0 (Below w.heap.size w w46) := ⟨(by rw [hw]; exact Xi)⟩; clear hw; clear HO441; clear HO446; clear HO451; clear HO458; clear B433; clear B434; clear B453; clear B459; clear HB; have HO441 := n0_; have HO446 := n1_; have HO451 := n2_; have HO458 := n3_; have B433 := n4_; have B434 := n5_; have B453 := n6_; have B459 := n7_; have HB := n8_; clear n0_ n1_ n2_ n3_ n4_ n5_ n6_ n7_ n8_; have hnb47 := NB434_453.out; have hnc47 := NB453_434.out; obtain ⟨Z48_0, Z48_1, Z48_2⟩ := Xc3 B434; obtain ⟨F48_0, F48_1, F48_2⟩ := Xf3 B434) | ((with_reducible refine gate_callee (f := 15) rfl ?_); refine Xgo 38 Try.func15 #[.agg #[.int .i64 a1_0, .int .i64 a1_1, .slice A1_2 l1_2.length c1_2]] ?_; (with_reducible refine (laws_toDoc.calls k a1_0 a1_1 _ _ l1_2 t460 t461 t462 _ ?s1 ?s2 A21.out).mono ?_); (case s1 => exact Xc HR1_2); (case s2 => exact HC1_2.out); rintro e w49 ⟨v463, rfl, ho0, hb⟩; refine ⟨_, rfl, ?_⟩; obtain ⟨z12_, hzz12_⟩ := XR.zat ho0; have HO464 := Am (Kd.S_lower (Kd.S_new' (Kd.S_new' (Kd.S_new' (Kd.S_new' (XR.S_newZ ho0 hzz12_) (Kd.S_lt (Xq HO441))) (Kd.S_lt (Xq HO446))) (Kd.N_lt (Xq HO451))) (Kd.S_lt (Xq HO458))) (below_size Xi)); replace HO441 := Am (XR.S_elderZ (Xq HO441) (Kd.S_base ho0) hb hzz12_); replace HO446 := Am (XR.S_elderZ (Xq HO446) (Kd.S_base ho0) hb hzz12_); replace HO451 := Am (XR.N_elderZ (Xq HO451) (Kd.S_base ho0) hb hzz12_); replace HO458 := Am (XR.S_elderZ (Xq HO458) (Kd.S_base ho0) hb hzz12_); replace B433 := Xbb B433 hb; replace B434 := Xbb B434 hb; replace B453 := Xbb B453 hb; replace B459 := Xbb B459 hb; replace HB := Xhb hb; clear hb; (try clear ho0); (try clear hzz12_)) | ((with_reducible refine gate_dst (N := 9) rfl ?_); refine Xbox 9 #[.int .i64 0, .int .i64 0, .slice none 0 0] 29 ?_; intro gb465 hg w50 hbox hb; replace HO441 := Am (Kd.S_below (Xq HO441) hb); replace HO446 := Am (Kd.S_below (Xq HO446) hb); replace HO451 := Am (Kd.N_below (Kd.N_elderB (Xq HO451) gb465 (Nat.le_of_eq hg.symm)) hb); replace HO458 := Am (Kd.S_below (Xq HO458) hb); replace HO464 := Am (Kd.S_below (Xq HO464) hb); have B465 := Am (hbox); have GE465 := Xge hg Xi; replace HB := Xhb hb; have NB433_465 := Xnb hg B433; have NB465_433 := Xns NB433_465; replace B433 := Xbb B433 hb; have NB434_465 := Xnb hg B434; have NB465_434 := Xns NB434_465; replace B434 := Xbb B434 hb; have NB453_465 := Xnb hg B453; have NB465_453 := Xns NB453_465; replace B453 := Xbb B453 hb; have NB459_465 := Xnb hg B459; have NB465_459 := Xns NB459_465; replace B459 := Xbb B459 hb; clear hb hbox hg; have hnb51 := NB465_433.out; have hnc51 := NB433_465.out; have hnb52 := NB465_434.out; have hnc52 := NB434_465.out; have hnb53 := NB465_453.out; have hnc53 := NB453_465.out; have hnb54 := NB465_459.out; have hnc54 := NB459_465.out; obtain ⟨Z55_0, Z55_1, Z55_2⟩ := Xc3 B465; obtain ⟨F55_0, F55_1, F55_2⟩ := Xf3 B465; obtain ⟨Ao56, co56, eo56⟩ := Kd.S_slice HO464.out; subst eo56) | ((with_reducible refine gate_store (t := 29) (p := 9) rfl ?_); refine store_event (t := 29) (p := 9) (v := ?vo_w57) (w1 := (((w50.setCell ⟨gb465, 0, none⟩ (.int .i64 t460)).setCell ⟨gb465, 1, none⟩ (.int .i64 t461)).setCell ⟨gb465, 2, none⟩ (.slice Ao56 t462.length co56))) ?hg ?ho ?hn ?hr ?_; (case ho => rfl); (case hg => rfl); (case hn => rfl); (case hr => first | (go_simp; done) | (go_simp; rfl)); intro w57 hw; have n0_ : Aside0 (Kd.S k43 43 w57 w.heap.size (fun k_ => some k_ ≠ (v445 : Value).ownBlock ∧ some k_ ≠ (.slice Ao34 t449.length co34 : Value).ownBlock ∧ some k_ ≠ (.slice Ao45 t456.length co45 : Value).ownBlock ∧ some k_ ≠ (.slice Ao56 t462.length co56 : Value).ownBlock ∧ k_ ≠ XR.zge z9_ k_ ∧ k_ ≠ XR.zlt z10_ k_ ∧ k_ ≠ XR.zlt z11_ k_ ∧ k_ ≠ XR.zlt z12_ k_) v440 t439) := ⟨(by rw [hw]; exact (by (with_reducible repeat (first | apply Kd.S_alloc | apply Kd.S_drewN | apply Kd.S_drew)); exact Kd.S_mono (Kd.S_far (p := ⟨gb465, 2, none⟩) (Kd.S_far (p := ⟨gb465, 1, none⟩) (Kd.S_far (p := ⟨gb465, 0, none⟩) (Kd.S_types HO441.out B465.out (by decide)) (fun _ hk => hk.2) (.int .i64 t460)) (fun _ hk => hk.2) (.int .i64 t461)) (fun _ hk => hk.2) (.slice Ao56 t462.length co56)) (fun _ hk => ⟨hk.1.1.1.1, ⟨hk.1.1.1.2.1, ⟨hk.1.1.1.2.2.1, ⟨hk.1.1.2, ⟨hk.1.1.1.2.2.2.1, ⟨hk.1.1.1.2.2.2.2.1, ⟨hk.1.1.1.2.2.2.2.2, hk.1.2⟩⟩⟩⟩⟩⟩⟩)))⟩; have n1_ : Aside0 (Kd.S k43 43 w57 w.heap.size (fun k_ => some k_ ≠ (v440 : Value).ownBlock ∧ some k_ ≠ (.slice Ao34 t449.length co34 : Value).ownBlock ∧ some k_ ≠ (.slice Ao45 t456.length co45 : Value).ownBlock ∧ some k_ ≠ (.slice Ao56 t462.length co56 : Value).ownBlock ∧ k_ ≠ XR.zge z10_ k_ ∧ k_ ≠ XR.zlt z11_ k_ ∧ k_ ≠ XR.zlt z12_ k_) v445 t444) := ⟨(by rw [hw]; exact (by (with_reducible repeat (first | apply Kd.S_alloc | apply Kd.S_drewN | apply Kd.S_drew)); exact Kd.S_mono (Kd.S_far (p := ⟨gb465, 2, none⟩) (Kd.S_far (p := ⟨gb465, 1, none⟩) (Kd.S_far (p := ⟨gb465, 0, none⟩) (Kd.S_types HO446.out B465.out (by decide)) (fun _ hk => hk.2) (.int .i64 t460)) (fun _ hk => hk.2) (.int .i64 t461)) (fun _ hk => hk.2) (.slice Ao56 t462.length co56)) (fun _ hk => ⟨hk.1.1.1.1, ⟨hk.1.1.1.2.1, ⟨hk.1.1.1.2.2.1, ⟨hk.1.1.2, ⟨hk.1.1.1.2.2.2.1, ⟨hk.1.1.1.2.2.2.2, hk.1.2⟩⟩⟩⟩⟩⟩)))⟩; have n2_ : Aside0 (Kd.N k43 43 w57 w.heap.size (fun k_ => some k_ ≠ (v440 : Value).ownBlock ∧ some k_ ≠ (v445 : Value).ownBlock ∧ some k_ ≠ (.slice Ao45 t456.length co45 : Value).ownBlock ∧ some k_ ≠ (.slice Ao56 t462.length co56 : Value).ownBlock ∧ k_ ≠ gb433 ∧ k_ ≠ gb434 ∧ k_ ≠ gb453 ∧ k_ ≠ XR.zlt z11_ k_ ∧ k_ ≠ gb459 ∧ k_ ≠ XR.zlt z12_ k_ ∧ k_ ≠ gb465) (.slice Ao34 t449.length co34) t449) := ⟨(by rw [hw]; exact (by (with_reducible repeat (first | apply Kd.N_alloc | apply Kd.N_drewN | apply Kd.N_drew)); exact Kd.N_mono (Kd.N_far (p := ⟨gb465, 2, none⟩) (Kd.N_far (p := ⟨gb465, 1, none⟩) (Kd.N_far (p := ⟨gb465, 0, none⟩) (Kd.N_mono HO451.out (fun k_ hk => (⟨hk, hk.2⟩ : _ ∧ k_ ≠ gb465))) (fun _ hk => hk.2) (.int .i64 t460)) (fun _ hk => hk.2) (.int .i64 t461)) (fun _ hk => hk.2) (.slice Ao56 t462.length co56)) (fun _ hk => ⟨hk.1.1.1.1.1, ⟨hk.1.1.1.1.2.1, ⟨hk.1.1.1.1.2.2.1, ⟨hk.1.1.1.2, ⟨hk.1.1.1.1.2.2.2.1, ⟨hk.1.1.1.1.2.2.2.2.1, ⟨hk.1.1.1.1.2.2.2.2.2.1, ⟨hk.1.1.1.1.2.2.2.2.2.2.1, ⟨hk.1.1.1.1.2.2.2.2.2.2.2, ⟨hk.1.1.2, hk.1.2⟩⟩⟩⟩⟩⟩⟩⟩⟩⟩)))⟩; have n3_ : Aside0 (Kd.S k43 43 w57 w.heap.size (fun k_ => some k_ ≠ (v440 : Value).ownBlock ∧ some k_ ≠ (v445 : Value).ownBlock ∧ some k_ ≠ (.slice Ao34 t449.length co34 : Value).ownBlock ∧ some k_ ≠ (.slice Ao56 t462.length co56 : Value).ownBlock ∧ k_ ≠ XR.zge z11_ k_ ∧ k_ ≠ XR.zlt z12_ k_) (.slice Ao45 t456.length co45) t456) := ⟨(by rw [hw]; exact (by (with_reducible repeat (first | apply Kd.S_alloc | apply Kd.S_drewN | apply Kd.S_drew)); exact Kd.S_mono (Kd.S_far (p := ⟨gb465, 2, none⟩) (Kd.S_far (p := ⟨gb465, 1, none⟩) (Kd.S_far (p := ⟨gb465, 0, none⟩) (Kd.S_types HO458.out B465.out (by decide)) (fun _ hk => hk.2) (.int .i64 t460)) (fun _ hk => hk.2) (.int .i64 t461)) (fun _ hk => hk.2) (.slice Ao56 t462.length co56)) (fun _ hk => ⟨hk.1.1.1.1, ⟨hk.1.1.1.2.1, ⟨hk.1.1.1.2.2.1, ⟨hk.1.1.2, ⟨hk.1.1.1.2.2.2, hk.1.2⟩⟩⟩⟩⟩)))⟩; have n4_ : Aside0 (Kd.S k43 43 w57 w.heap.size (fun k_ => some k_ ≠ (v440 : Value).ownBlock ∧ some k_ ≠ (v445 : Value).ownBlock ∧ some k_ ≠ (.slice Ao34 t449.length co34 : Value).ownBlock ∧ some k_ ≠ (.slice Ao45 t456.length co45 : Value).ownBlock ∧ k_ ≠ XR.zge z12_ k_) (.slice Ao56 t462.length co56) t462) := ⟨(by rw [hw]; exact (by (with_reducible repeat (first | apply Kd.S_alloc | apply Kd.S_drewN | apply Kd.S_drew)); exact Kd.S_mono (Kd.S_far (p := ⟨gb465, 2, none⟩) (Kd.S_far (p := ⟨gb465, 1, none⟩) (Kd.S_far (p := ⟨gb465, 0, none⟩) (Kd.S_types HO464.out B465.out (by decide)) (fun _ hk => hk.2) (.int .i64 t460)) (fun _ hk => hk.2) (.int .i64 t461)) (fun _ hk => hk.2) (.slice Ao56 t462.length co56)) (fun _ hk => ⟨hk.1.1.1.1.2, ⟨hk.1.1.1.2, ⟨hk.1.1.2, ⟨hk.1.2, hk.1.1.1.1.1.2⟩⟩⟩⟩)))⟩; have n5_ : Aside0 (w57.heap[gb433]? = some (.cells #[.int .i64 a0_0, .int .i64 a0_1, .slice A0_2 l0_2.length c0_2] 24 (0, 0))) := ⟨(by rw [hw]; exact (by refine Xu ?_; refine blk_far ?_ NB433_465.out _; refine Xu ?_; refine blk_far ?_ NB433_465.out _; refine Xu ?_; refine blk_far ?_ NB433_465.out _; refine Xu ?_; exact B433.out))⟩; have n6_ : Aside0 (w57.heap[gb434]? = some (.cells #[.int .i64 a1_0, .int .i64 a1_1, .slice A1_2 l1_2.length c1_2] 24 (0, 0))) := ⟨(by rw [hw]; exact (by refine Xu ?_; refine blk_far ?_ NB434_465.out _; refine Xu ?_; refine blk_far ?_ NB434_465.out _; refine Xu ?_; refine blk_far ?_ NB434_465.out _; refine Xu ?_; exact B434.out))⟩; have n7_ : Aside0 (w57.heap[gb453]? = some (.cells #[.int .i64 t447, .int .i64 t448, .slice Ao34 t449.length co34] 29 (0, 0))) := ⟨(by rw [hw]; exact (by refine Xu ?_; refine blk_far ?_ NB453_465.out _; refine Xu ?_; refine blk_far ?_ NB453_465.out _; refine Xu ?_; refine blk_far ?_ NB453_465.out _; refine Xu ?_; exact B453.out))⟩; have n8_ : Aside0 (w57.heap[gb459]? = some (.cells #[.int .i64 t454, .int .i64 t455, .slice Ao45 t456.length co45] 29 (0, 0))) := ⟨(by rw [hw]; exact (by refine Xu ?_; refine blk_far ?_ NB459_465.out _; refine Xu ?_; refine blk_far ?_ NB459_465.out _; refine Xu ?_; refine blk_far ?_ NB459_465.out _; refine Xu ?_; exact B459.out))⟩; have n9_ : Aside0 (w57.heap[gb465]? = some (.cells #[.int .i64 t460, .int .i64 t461, .slice Ao56 t462.length co56] 29 (0, 0))) := ⟨(by rw [hw]; exact (by refine Xu ?_; refine blk_put (cs := #[.int .i64 t460, .int .i64 t461, .slice none 0 0]) ?_ 2 _ rfl; refine Xu ?_; refine blk_put (cs := #[.int .i64 t460, .int .i64 0, .slice none 0 0]) ?_ 1 _ rfl; refine Xu ?_; refine blk_put (cs := #[.int .i64 0, .int .i64 0, .slice none 0 0]) ?_ 0 _ rfl; refine Xu ?_; exact B465.out))⟩; have n10_ : Aside0 (Below w.heap.size w w57) := ⟨(by rw [hw]; exact Xi)⟩; clear hw; clear HO441; clear HO446; clear HO451; clear HO458; clear HO464; clear B433; clear B434; clear B453; clear B459; clear B465; clear HB; have HO441 := n0_; have HO446 := n1_; have HO451 := n2_; have HO458 := n3_; have HO464 := n4_; have B433 := n5_; have B434 := n6_; have B453 := n7_; have B459 := n8_; have B465 := n9_; have HB := n10_; clear n0_ n1_ n2_ n3_ n4_ n5_ n6_ n7_ n8_ n9_ n10_; obtain ⟨Z58_0, Z58_1, Z58_2⟩ := Xc3 B459; obtain ⟨F58_0, F58_1, F58_2⟩ := Xf3 B459; obtain ⟨Z59_0, Z59_1, Z59_2⟩ := Xc3 B465; obtain ⟨F59_0, F59_1, F59_2⟩ := Xf3 B465) | ((with_reducible refine gate_callee (f := 49) rfl ?_); refine Xgo 42 Try.func49 #[.agg #[.int .i64 t454, .int .i64 t455, .slice Ao45 t456.length co45], .agg #[.int .i64 t460, .int .i64 t461, .slice Ao56 t462.length co56]] ?_; (with_reducible refine (impl_SpliceSub.calls k t454 t455 _ _ t456 t460 t461 _ _ t462 t466 t467 t468 t471 _ ?s1 ?s2 ?s3 ?s4 A22.out).mono ?_); (case s1 => exact Xcd (Kd.S_reads' HO458.out).2.2); (case s2 => exact (Kd.S_reads' HO458.out).2.1); (case s3 => exact Xcd (Kd.S_reads' HO464.out).2.2); (case s4 => exact (Kd.S_reads' HO464.out).2.1); rintro e w60 ⟨v469, rfl, ho0, hb⟩; refine ⟨_, rfl, ?_⟩; obtain ⟨z13_, hzz13_⟩ := XR.zat ho0; have HO470 := Am (Kd.S_lower (Kd.S_new' (Kd.S_new' (Kd.S_new' (Kd.S_new' (Kd.S_new' (XR.S_newZ ho0 hzz13_) (Kd.S_lt (Xq HO441))) (Kd.S_lt (Xq HO446))) (Kd.N_lt (Xq HO451))) (Kd.S_lt (Xq HO458))) (Kd.S_lt (Xq HO464))) (below_size Xi)); replace HO441 := Am (XR.S_elderZ (Xq HO441) (Kd.S_base ho0) hb hzz13_); replace HO446 := Am (XR.S_elderZ (Xq HO446) (Kd.S_base ho0) hb hzz13_); replace HO451 := Am (XR.N_elderZ (Xq HO451) (Kd.S_base ho0) hb hzz13_); replace HO458 := Am (XR.S_elderZ (Xq HO458) (Kd.S_base ho0) hb hzz13_); replace HO464 := Am (XR.S_elderZ (Xq HO464) (Kd.S_base ho0) hb hzz13_); replace B433 := Xbb B433 hb; replace B434 := Xbb B434 hb; replace B453 := Xbb B453 hb; replace B459 := Xbb B459 hb; replace B465 := Xbb B465 hb; replace HB := Xhb hb; clear hb; (try clear ho0); (try clear hzz13_)) | ((with_reducible refine gate_dst (N := 10) rfl ?_); refine Xbox 10 #[.int .i64 0, .int .i64 0, .slice none 0 0] 29 ?_; intro gb472 hg w61 hbox hb; replace HO441 := Am (Kd.S_below (Xq HO441) hb); replace HO446 := Am (Kd.S_below (Xq HO446) hb); replace HO451 := Am (Kd.N_below (Kd.N_elderB (Xq HO451) gb472 (Nat.le_of_eq hg.symm)) hb); replace HO458 := Am (Kd.S_below (Xq HO458) hb); replace HO464 := Am (Kd.S_below (Xq HO464) hb); replace HO470 := Am (Kd.S_below (Xq HO470) hb); have B472 := Am (hbox); have GE472 := Xge hg Xi; replace HB := Xhb hb; have NB433_472 := Xnb hg B433; have NB472_433 := Xns NB433_472; replace B433 := Xbb B433 hb; have NB434_472 := Xnb hg B434; have NB472_434 := Xns NB434_472; replace B434 := Xbb B434 hb; have NB453_472 := Xnb hg B453; have NB472_453 := Xns NB453_472; replace B453 := Xbb B453 hb; have NB459_472 := Xnb hg B459; have NB472_459 := Xns NB459_472; replace B459 := Xbb B459 hb; have NB465_472 := Xnb hg B465; have NB472_465 := Xns NB465_472; replace B465 := Xbb B465 hb; clear hb hbox hg; have hnb62 := NB472_433.out; have hnc62 := NB433_472.out; have hnb63 := NB472_434.out; have hnc63 := NB434_472.out; have hnb64 := NB472_453.out; have hnc64 := NB453_472.out; have hnb65 := NB472_459.out; have hnc65 := NB459_472.out; have hnb66 := NB472_465.out; have hnc66 := NB465_472.out; obtain ⟨Z67_0, Z67_1, Z67_2⟩ := Xc3 B472; obtain ⟨F67_0, F67_1, F67_2⟩ := Xf3 B472; obtain ⟨Ao68, co68, eo68⟩ := Kd.S_slice HO470.out; subst eo68) | ((with_reducible refine gate_store (t := 29) (p := 10) rfl ?_); refine store_event (t := 29) (p := 10) (v := ?vo_w69) (w1 := (((w61.setCell ⟨gb472, 0, none⟩ (.int .i64 t466)).setCell ⟨gb472, 1, none⟩ (.int .i64 t467)).setCell ⟨gb472, 2, none⟩ (.slice Ao68 t468.length co68))) ?hg ?ho ?hn ?hr ?_; (case ho => rfl); (case hg => rfl); (case hn => rfl); (case hr => first | (go_simp; done) | (go_simp; rfl)); intro w69 hw; have n0_ : Aside0 (Kd.S k43 43 w69 w.heap.size (fun k_ => some k_ ≠ (v445 : Value).ownBlock ∧ some k_ ≠ (.slice Ao34 t449.length co34 : Value).ownBlock ∧ some k_ ≠ (.slice Ao45 t456.length co45 : Value).ownBlock ∧ some k_ ≠ (.slice Ao56 t462.length co56 : Value).ownBlock ∧ some k_ ≠ (.slice Ao68 t468.length co68 : Value).ownBlock ∧ k_ ≠ XR.zge z9_ k_ ∧ k_ ≠ XR.zlt z10_ k_ ∧ k_ ≠ XR.zlt z11_ k_ ∧ k_ ≠ XR.zlt z12_ k_ ∧ k_ ≠ XR.zlt z13_ k_) v440 t439) := ⟨(by rw [hw]; exact (by (with_reducible repeat (first | apply Kd.S_alloc | apply Kd.S_drewN | apply Kd.S_drew)); exact Kd.S_mono (Kd.S_far (p := ⟨gb472, 2, none⟩) (Kd.S_far (p := ⟨gb472, 1, none⟩) (Kd.S_far (p := ⟨gb472, 0, none⟩) (Kd.S_types HO441.out B472.out (by decide)) (fun _ hk => hk.2) (.int .i64 t466)) (fun _ hk => hk.2) (.int .i64 t467)) (fun _ hk => hk.2) (.slice Ao68 t468.length co68)) (fun _ hk => ⟨hk.1.1.1.1, ⟨hk.1.1.1.2.1, ⟨hk.1.1.1.2.2.1, ⟨hk.1.1.1.2.2.2.1, ⟨hk.1.1.2, ⟨hk.1.1.1.2.2.2.2.1, ⟨hk.1.1.1.2.2.2.2.2.1, ⟨hk.1.1.1.2.2.2.2.2.2.1, ⟨hk.1.1.1.2.2.2.2.2.2.2, hk.1.2⟩⟩⟩⟩⟩⟩⟩⟩⟩)))⟩; have n1_ : Aside0 (Kd.S k43 43 w69 w.heap.size (fun k_ => some k_ ≠ (v440 : Value).ownBlock ∧ some k_ ≠ (.slice Ao34 t449.length co34 : Value).ownBlock ∧ some k_ ≠ (.slice Ao45 t456.length co45 : Value).ownBlock ∧ some k_ ≠ (.slice Ao56 t462.length co56 : Value).ownBlock ∧ some k_ ≠ (.slice Ao68 t468.length co68 : Value).ownBlock ∧ k_ ≠ XR.zge z10_ k_ ∧ k_ ≠ XR.zlt z11_ k_ ∧ k_ ≠ XR.zlt z12_ k_ ∧ k_ ≠ XR.zlt z13_ k_) v445 t444) := ⟨(by rw [hw]; exact (by (with_reducible repeat (first | apply Kd.S_alloc | apply Kd.S_drewN | apply Kd.S_drew)); exact Kd.S_mono (Kd.S_far (p := ⟨gb472, 2, none⟩) (Kd.S_far (p := ⟨gb472, 1, none⟩) (Kd.S_far (p := ⟨gb472, 0, none⟩) (Kd.S_types HO446.out B472.out (by decide)) (fun _ hk => hk.2) (.int .i64 t466)) (fun _ hk => hk.2) (.int .i64 t467)) (fun _ hk => hk.2) (.slice Ao68 t468.length co68)) (fun _ hk => ⟨hk.1.1.1.1, ⟨hk.1.1.1.2.1, ⟨hk.1.1.1.2.2.1, ⟨hk.1.1.1.2.2.2.1, ⟨hk.1.1.2, ⟨hk.1.1.1.2.2.2.2.1, ⟨hk.1.1.1.2.2.2.2.2.1, ⟨hk.1.1.1.2.2.2.2.2.2, hk.1.2⟩⟩⟩⟩⟩⟩⟩⟩)))⟩; have n2_ : Aside0 (Kd.N k43 43 w69 w.heap.size (fun k_ => some k_ ≠ (v440 : Value).ownBlock ∧ some k_ ≠ (v445 : Value).ownBlock ∧ some k_ ≠ (.slice Ao45 t456.length co45 : Value).ownBlock ∧ some k_ ≠ (.slice Ao56 t462.length co56 : Value).ownBlock ∧ some k_ ≠ (.slice Ao68 t468.length co68 : Value).ownBlock ∧ k_ ≠ gb433 ∧ k_ ≠ gb434 ∧ k_ ≠ gb453 ∧ k_ ≠ XR.zlt z11_ k_ ∧ k_ ≠ gb459 ∧ k_ ≠ XR.zlt z12_ k_ ∧ k_ ≠ gb465 ∧ k_ ≠ XR.zlt z13_ k_ ∧ k_ ≠ gb472) (.slice Ao34 t449.length co34) t449) := ⟨(by rw [hw]; exact (by (with_reducible repeat (first | apply Kd.N_alloc | apply Kd.N_drewN | apply Kd.N_drew)); exact Kd.N_mono (Kd.N_far (p := ⟨gb472, 2, none⟩) (Kd.N_far (p := ⟨gb472, 1, none⟩) (Kd.N_far (p := ⟨gb472, 0, none⟩) (Kd.N_mono HO451.out (fun k_ hk => (⟨hk, hk.2⟩ : _ ∧ k_ ≠ gb472))) (fun _ hk => hk.2) (.int .i64 t466)) (fun _ hk => hk.2) (.int .i64 t467)) (fun _ hk => hk.2) (.slice Ao68 t468.length co68)) (fun _ hk => ⟨hk.1.1.1.1.1, ⟨hk.1.1.1.1.2.1, ⟨hk.1.1.1.1.2.2.1, ⟨hk.1.1.1.1.2.2.2.1, ⟨hk.1.1.1.2, ⟨hk.1.1.1.1.2.2.2.2.1, ⟨hk.1.1.1.1.2.2.2.2.2.1, ⟨hk.1.1.1.1.2.2.2.2.2.2.1, ⟨hk.1.1.1.1.2.2.2.2.2.2.2.1, ⟨hk.1.1.1.1.2.2.2.2.2.2.2.2.1, ⟨hk.1.1.1.1.2.2.2.2.2.2.2.2.2.1, ⟨hk.1.1.1.1.2.2.2.2.2.2.2.2.2.2, ⟨hk.1.1.2, hk.1.2⟩⟩⟩⟩⟩⟩⟩⟩⟩⟩⟩⟩⟩)))⟩; have n3_ : Aside0 (Kd.S k43 43 w69 w.heap.size (fun k_ => some k_ ≠ (v440 : Value).ownBlock ∧ some k_ ≠ (v445 : Value).ownBlock ∧ some k_ ≠ (.slice Ao34 t449.length co34 : Value).ownBlock ∧ some k_ ≠ (.slice Ao56 t462.length co56 : Value).ownBlock ∧ some k_ ≠ (.slice Ao68 t468.length co68 : Value).ownBlock ∧ k_ ≠ XR.zge z11_ k_ ∧ k_ ≠ XR.zlt z12_ k_ ∧ k_ ≠ XR.zlt z13_ k_) (.slice Ao45 t456.length co45) t456) := ⟨(by rw [hw]; exact (by (with_reducible repeat (first | apply Kd.S_alloc | apply Kd.S_drewN | apply Kd.S_drew)); exact Kd.S_mono (Kd.S_far (p := ⟨gb472, 2, none⟩) (Kd.S_far (p := ⟨gb472, 1, none⟩) (Kd.S_far (p := ⟨gb472, 0, none⟩) (Kd.S_types HO458.out B472.out (by decide)) (fun _ hk => hk.2) (.int .i64 t466)) (fun _ hk => hk.2) (.int .i64 t467)) (fun _ hk => hk.2) (.slice Ao68 t468.length co68)) (fun _ hk => ⟨hk.1.1.1.1, ⟨hk.1.1.1.2.1, ⟨hk.1.1.1.2.2.1, ⟨hk.1.1.1.2.2.2.1, ⟨hk.1.1.2, ⟨hk.1.1.1.2.2.2.2.1, ⟨hk.1.1.1.2.2.2.2.2, hk.1.2⟩⟩⟩⟩⟩⟩⟩)))⟩; have n4_ : Aside0 (Kd.S k43 43 w69 w.heap.size (fun k_ => some k_ ≠ (v440 : Value).ownBlock ∧ some k_ ≠ (v445 : Value).ownBlock ∧ some k_ ≠ (.slice Ao34 t449.length co34 : Value).ownBlock ∧ some k_ ≠ (.slice Ao45 t456.length co45 : Value).ownBlock ∧ some k_ ≠ (.slice Ao68 t468.length co68 : Value).ownBlock ∧ k_ ≠ XR.zge z12_ k_ ∧ k_ ≠ XR.zlt z13_ k_) (.slice Ao56 t462.length co56) t462) := ⟨(by rw [hw]; exact (by (with_reducible repeat (first | apply Kd.S_alloc | apply Kd.S_drewN | apply Kd.S_drew)); exact Kd.S_mono (Kd.S_far (p := ⟨gb472, 2, none⟩) (Kd.S_far (p := ⟨gb472, 1, none⟩) (Kd.S_far (p := ⟨gb472, 0, none⟩) (Kd.S_types HO464.out B472.out (by decide)) (fun _ hk => hk.2) (.int .i64 t466)) (fun _ hk => hk.2) (.int .i64 t467)) (fun _ hk => hk.2) (.slice Ao68 t468.length co68)) (fun _ hk => ⟨hk.1.1.1.1, ⟨hk.1.1.1.2.1, ⟨hk.1.1.1.2.2.1, ⟨hk.1.1.1.2.2.2.1, ⟨hk.1.1.2, ⟨hk.1.1.1.2.2.2.2, hk.1.2⟩⟩⟩⟩⟩⟩)))⟩; have n5_ : Aside0 (Kd.S k43 43 w69 w.heap.size (fun k_ => some k_ ≠ (v440 : Value).ownBlock ∧ some k_ ≠ (v445 : Value).ownBlock ∧ some k_ ≠ (.slice Ao34 t449.length co34 : Value).ownBlock ∧ some k_ ≠ (.slice Ao45 t456.length co45 : Value).ownBlock ∧ some k_ ≠ (.slice Ao56 t462.length co56 : Value).ownBlock ∧ k_ ≠ XR.zge z13_ k_) (.slice Ao68 t468.length co68) t468) := ⟨(by rw [hw]; exact (by (with_reducible repeat (first | apply Kd.S_alloc | apply Kd.S_drewN | apply Kd.S_drew)); exact Kd.S_mono (Kd.S_far (p := ⟨gb472, 2, none⟩) (Kd.S_far (p := ⟨gb472, 1, none⟩) (Kd.S_far (p := ⟨gb472, 0, none⟩) (Kd.S_types HO470.out B472.out (by decide)) (fun _ hk => hk.2) (.int .i64 t466)) (fun _ hk => hk.2) (.int .i64 t467)) (fun _ hk => hk.2) (.slice Ao68 t468.length co68)) (fun _ hk => ⟨hk.1.1.1.1.1.2, ⟨hk.1.1.1.1.2, ⟨hk.1.1.1.2, ⟨hk.1.1.2, ⟨hk.1.2, hk.1.1.1.1.1.1.2⟩⟩⟩⟩⟩)))⟩; have n6_ : Aside0 (w69.heap[gb433]? = some (.cells #[.int .i64 a0_0, .int .i64 a0_1, .slice A0_2 l0_2.length c0_2] 24 (0, 0))) := ⟨(by rw [hw]; exact (by refine Xu ?_; refine blk_far ?_ NB433_472.out _; refine Xu ?_; refine blk_far ?_ NB433_472.out _; refine Xu ?_; refine blk_far ?_ NB433_472.out _; refine Xu ?_; exact B433.out))⟩; have n7_ : Aside0 (w69.heap[gb434]? = some (.cells #[.int .i64 a1_0, .int .i64 a1_1, .slice A1_2 l1_2.length c1_2] 24 (0, 0))) := ⟨(by rw [hw]; exact (by refine Xu ?_; refine blk_far ?_ NB434_472.out _; refine Xu ?_; refine blk_far ?_ NB434_472.out _; refine Xu ?_; refine blk_far ?_ NB434_472.out _; refine Xu ?_; exact B434.out))⟩; have n8_ : Aside0 (w69.heap[gb453]? = some (.cells #[.int .i64 t447, .int .i64 t448, .slice Ao34 t449.length co34] 29 (0, 0))) := ⟨(by rw [hw]; exact (by refine Xu ?_; refine blk_far ?_ NB453_472.out _; refine Xu ?_; refine blk_far ?_ NB453_472.out _; refine Xu ?_; refine blk_far ?_ NB453_472.out _; refine Xu ?_; exact B453.out))⟩; have n9_ : Aside0 (w69.heap[gb459]? = some (.cells #[.int .i64 t454, .int .i64 t455, .slice Ao45 t456.length co45] 29 (0, 0))) := ⟨(by rw [hw]; exact (by refine Xu ?_; refine blk_far ?_ NB459_472.out _; refine Xu ?_; refine blk_far ?_ NB459_472.out _; refine Xu ?_; refine blk_far ?_ NB459_472.out _; refine Xu ?_; exact B459.out))⟩; have n10_ : Aside0 (w69.heap[gb465]? = some (.cells #[.int .i64 t460, .int .i64 t461, .slice Ao56 t462.length co56] 29 (0, 0))) := ⟨(by rw [hw]; exact (by refine Xu ?_; refine blk_far ?_ NB465_472.out _; refine Xu ?_; refine blk_far ?_ NB465_472.out _; refine Xu ?_; refine blk_far ?_ NB465_472.out _; refine Xu ?_; exact B465.out))⟩; have n11_ : Aside0 (w69.heap[gb472]? = some (.cells #[.int .i64 t466, .int .i64 t467, .slice Ao68 t468.length co68] 29 (0, 0))) := ⟨(by rw [hw]; exact (by refine Xu ?_; refine blk_put (cs := #[.int .i64 t466, .int .i64 t467, .slice none 0 0]) ?_ 2 _ rfl; refine Xu ?_; refine blk_put (cs := #[.int .i64 t466, .int .i64 0, .slice none 0 0]) ?_ 1 _ rfl; refine Xu ?_; refine blk_put (cs := #[.int .i64 0, .int .i64 0, .slice none 0 0]) ?_ 0 _ rfl; refine Xu ?_; exact B472.out))⟩; have n12_ : Aside0 (Below w.heap.size w w69) := ⟨(by rw [hw]; exact Xi)⟩; clear hw; clear HO441; clear HO446; clear HO451; clear HO458; clear HO464; clear HO470; clear B433; clear B434; clear B453; clear B459; clear B465; clear B472; clear HB; have HO441 := n0_; have HO446 := n1_; have HO451 := n2_; have HO458 := n3_; have HO464 := n4_; have HO470 := n5_; have B433 := n6_; have B434 := n7_; have B453 := n8_; have B459 := n9_; have B465 := n10_; have B472 := n11_; have HB := n12_; clear n0_ n1_ n2_ n3_ n4_ n5_ n6_ n7_ n8_ n9_ n10_ n11_ n12_))
 (try simp only [XW.q0, XW.q1, XW.q2])
 go_cut [53] (fun v53 wc => ∃ (kq : Nat) (x53_22 : Bool), v53 = .bool x53_22 ∧ Aside0 (laws_FnExactSpliceSub.j0 kq t452 t471 x53_22 a0_0 a0_1 l0_2 a1_0 a1_1 l1_2 t447 t448 t449 t454 t455 t456 t460 t461 t462 t466 t467 t468 = some true) ∧ Aside0 (kq ≤ k) ∧ Aside0 (Kd.N k43 43 wc w.heap.size (fun k_ => some k_ ≠ ((.slice Ao45 t456.length co45) : Value).ownBlock ∧ some k_ ≠ ((.slice Ao56 t462.length co56) : Value).ownBlock ∧ some k_ ≠ ((.slice Ao68 t468.length co68) : Value).ownBlock ∧ k_ ≠ gb433 ∧ k_ ≠ gb434 ∧ k_ ≠ gb453 ∧ k_ ≠ gb459 ∧ k_ ≠ gb465 ∧ k_ ≠ gb472 ∧ k_ ≠ XR.zlt z11_ k_ ∧ k_ ≠ XR.zlt z12_ k_ ∧ k_ ≠ XR.zlt z13_ k_) (.slice Ao34 t449.length co34) t449) ∧ Aside0 (Kd.S k43 43 wc w.heap.size (fun k_ => some k_ ≠ ((.slice Ao34 t449.length co34) : Value).ownBlock ∧ some k_ ≠ ((.slice Ao56 t462.length co56) : Value).ownBlock ∧ some k_ ≠ ((.slice Ao68 t468.length co68) : Value).ownBlock ∧ k_ ≠ XR.zge z11_ k_ ∧ k_ ≠ XR.zlt z12_ k_ ∧ k_ ≠ XR.zlt z13_ k_) (.slice Ao45 t456.length co45) t456) ∧ Aside0 (Kd.S k43 43 wc w.heap.size (fun k_ => some k_ ≠ ((.slice Ao34 t449.length co34) : Value).ownBlock ∧ some k_ ≠ ((.slice Ao45 t456.length co45) : Value).ownBlock ∧ some k_ ≠ ((.slice Ao68 t468.length co68) : Value).ownBlock ∧ k_ ≠ XR.zge z12_ k_ ∧ k_ ≠ XR.zlt z13_ k_) (.slice Ao56 t462.length co56) t462) ∧ Aside0 (Kd.S k43 43 wc w.heap.size (fun k_ => some k_ ≠ ((.slice Ao34 t449.length co34) : Value).ownBlock ∧ some k_ ≠ ((.slice Ao45 t456.length co45) : Value).ownBlock ∧ some k_ ≠ ((.slice Ao56 t462.length co56) : Value).ownBlock ∧ k_ ≠ XR.zge z13_ k_) (.slice Ao68 t468.length co68) t468) ∧ Aside0 (wc.heap[gb433]? = some (.cells #[.int .i64 a0_0, .int .i64 a0_1, (.slice A0_2 l0_2.length c0_2)] 24 (0, 0))) ∧ Aside0 (wc.heap[gb434]? = some (.cells #[.int .i64 a1_0, .int .i64 a1_1, (.slice A1_2 l1_2.length c1_2)] 24 (0, 0))) ∧ Aside0 (wc.heap[gb453]? = some (.cells #[.int .i64 t447, .int .i64 t448, (.slice Ao34 t449.length co34)] 29 (0, 0))) ∧ Aside0 (wc.heap[gb459]? = some (.cells #[.int .i64 t454, .int .i64 t455, (.slice Ao45 t456.length co45)] 29 (0, 0))) ∧ Aside0 (wc.heap[gb465]? = some (.cells #[.int .i64 t460, .int .i64 t461, (.slice Ao56 t462.length co56)] 29 (0, 0))) ∧ Aside0 (wc.heap[gb472]? = some (.cells #[.int .i64 t466, .int .i64 t467, (.slice Ao68 t468.length co68)] 29 (0, 0))) ∧ Aside0 (Below w.heap.size w wc))
 case first =>
  have H := HC23.out
  clear HC23
  obtain ⟨t473, A70, H⟩ := Xbi H
  try dsimp only at H
  by_cases c71 : t473 = true
  ·subst c71
   try rw [if_pos rfl] at H
   have H' := Am H
   clear H
   have hnb72 := NB472_433.out
   have hnc72 := NB433_472.out
   have hnb73 := NB472_434.out
   have hnc73 := NB434_472.out
   have hnb74 := NB472_453.out
   have hnc74 := NB453_472.out
   have hnb75 := NB472_459.out
   have hnc75 := NB459_472.out
   have hnb76 := NB472_465.out
   have hnc76 := NB465_472.out
   obtain ⟨Z77_0, Z77_1, Z77_2⟩ := Xc3 B472
   obtain ⟨F77_0, F77_1, F77_2⟩ := Xf3 B472
   have hnb78 := NB453_433.out
   have hnc78 := NB433_453.out
   have hnb79 := NB453_434.out
   have hnc79 := NB434_453.out
   have hnb80 := NB453_459.out
   have hnc80 := NB459_453.out
   have hnb81 := NB453_465.out
   have hnc81 := NB465_453.out
   obtain ⟨Z82_0, Z82_1, Z82_2⟩ := Xc3 B453
   obtain ⟨F82_0, F82_1, F82_2⟩ := Xf3 B453
   go_wp2_with (first | ((with_reducible refine gate_callee (f := 17) rfl ?_); refine Xgo 47 Try.func17 #[.agg #[.int .i64 t466, .int .i64 t467, .slice Ao68 t468.length co68], .agg #[.int .i64 t447, .int .i64 t448, .slice Ao34 t449.length co34]] ?_; (with_reducible refine (laws_eqDoc.calls k t466 t467 _ _ t468 t447 t448 _ _ t449 true _ ?s1 ?s2 ?s3 ?s4 A70.out).mono ?_); (case s1 => exact Xcd (Kd.S_reads' HO470.out).2.2); (case s2 => exact (Kd.S_reads' HO470.out).2.1); (case s3 => exact Xcd (Kd.N_reads' HO451.out).2.2); (case s4 => exact (Kd.N_reads' HO451.out).2.1); rintro e w83 ⟨rfl, hb⟩; refine ⟨_, rfl, ?_⟩; replace HO441 := Am (Kd.S_below (Xq HO441) hb); replace HO446 := Am (Kd.S_below (Xq HO446) hb); replace HO451 := Am (Kd.N_below (Xq HO451) hb); replace HO458 := Am (Kd.S_below (Xq HO458) hb); replace HO464 := Am (Kd.S_below (Xq HO464) hb); replace HO470 := Am (Kd.S_below (Xq HO470) hb); replace B433 := Xbb B433 hb; replace B434 := Xbb B434 hb; replace B453 := Xbb B453 hb; replace B459 := Xbb B459 hb; replace B465 := Xbb B465 hb; replace B472 := Xbb B472 hb; replace HB := Xhb hb; clear hb))
   go_meet
   case rel => exact ⟨_, ((t471 != t452)), Xr, H', Xko, ⟨by (with_reducible repeat (first | apply Kd.N_alloc | apply Kd.N_drewN | apply Kd.N_drew)); exact Kd.N_mono HO451.out (fun _ hk => ⟨hk.2.2.1, ⟨hk.2.2.2.1, ⟨hk.2.2.2.2.1, ⟨hk.2.2.2.2.2.1, ⟨hk.2.2.2.2.2.2.1, ⟨hk.2.2.2.2.2.2.2.1, ⟨hk.2.2.2.2.2.2.2.2.2.1, ⟨hk.2.2.2.2.2.2.2.2.2.2.2.1, ⟨hk.2.2.2.2.2.2.2.2.2.2.2.2.2, ⟨hk.2.2.2.2.2.2.2.2.1, ⟨hk.2.2.2.2.2.2.2.2.2.2.1, hk.2.2.2.2.2.2.2.2.2.2.2.2.1⟩⟩⟩⟩⟩⟩⟩⟩⟩⟩⟩)⟩, ⟨by (with_reducible repeat (first | apply Kd.S_alloc | apply Kd.S_drewN | apply Kd.S_drew)); exact Kd.S_mono HO458.out (fun _ hk => ⟨hk.2.2.1, ⟨hk.2.2.2.1, ⟨hk.2.2.2.2.1, ⟨hk.2.2.2.2.2.1, ⟨hk.2.2.2.2.2.2.1, hk.2.2.2.2.2.2.2⟩⟩⟩⟩⟩)⟩, ⟨by (with_reducible repeat (first | apply Kd.S_alloc | apply Kd.S_drewN | apply Kd.S_drew)); exact Kd.S_mono HO464.out (fun _ hk => ⟨hk.2.2.1, ⟨hk.2.2.2.1, ⟨hk.2.2.2.2.1, ⟨hk.2.2.2.2.2.1, hk.2.2.2.2.2.2⟩⟩⟩⟩)⟩, ⟨by (with_reducible repeat (first | apply Kd.S_alloc | apply Kd.S_drewN | apply Kd.S_drew)); exact Kd.S_mono HO470.out (fun _ hk => ⟨hk.2.2.1, ⟨hk.2.2.2.1, ⟨hk.2.2.2.2.1, hk.2.2.2.2.2⟩⟩⟩)⟩, B433, B434, B453, B459, B465, B472, ⟨Xi⟩⟩
  replace c71 := Xbf c71
  subst c71
  try rw [if_neg Xft] at H
  have H' := Am H
  clear H
  have hnb84 := NB472_433.out
  have hnc84 := NB433_472.out
  have hnb85 := NB472_434.out
  have hnc85 := NB434_472.out
  have hnb86 := NB472_453.out
  have hnc86 := NB453_472.out
  have hnb87 := NB472_459.out
  have hnc87 := NB459_472.out
  have hnb88 := NB472_465.out
  have hnc88 := NB465_472.out
  obtain ⟨Z89_0, Z89_1, Z89_2⟩ := Xc3 B472
  obtain ⟨F89_0, F89_1, F89_2⟩ := Xf3 B472
  have hnb90 := NB453_433.out
  have hnc90 := NB433_453.out
  have hnb91 := NB453_434.out
  have hnc91 := NB434_453.out
  have hnb92 := NB453_459.out
  have hnc92 := NB459_453.out
  have hnb93 := NB453_465.out
  have hnc93 := NB465_453.out
  obtain ⟨Z94_0, Z94_1, Z94_2⟩ := Xc3 B453
  obtain ⟨F94_0, F94_1, F94_2⟩ := Xf3 B453
  go_wp2_with (first | ((with_reducible refine gate_callee (f := 17) rfl ?_); refine Xgo 47 Try.func17 #[.agg #[.int .i64 t466, .int .i64 t467, .slice Ao68 t468.length co68], .agg #[.int .i64 t447, .int .i64 t448, .slice Ao34 t449.length co34]] ?_; (with_reducible refine (laws_eqDoc.calls k t466 t467 _ _ t468 t447 t448 _ _ t449 false _ ?s1 ?s2 ?s3 ?s4 A70.out).mono ?_); (case s1 => exact Xcd (Kd.S_reads' HO470.out).2.2); (case s2 => exact (Kd.S_reads' HO470.out).2.1); (case s3 => exact Xcd (Kd.N_reads' HO451.out).2.2); (case s4 => exact (Kd.N_reads' HO451.out).2.1); rintro e w95 ⟨rfl, hb⟩; refine ⟨_, rfl, ?_⟩; replace HO441 := Am (Kd.S_below (Xq HO441) hb); replace HO446 := Am (Kd.S_below (Xq HO446) hb); replace HO451 := Am (Kd.N_below (Xq HO451) hb); replace HO458 := Am (Kd.S_below (Xq HO458) hb); replace HO464 := Am (Kd.S_below (Xq HO464) hb); replace HO470 := Am (Kd.S_below (Xq HO470) hb); replace B433 := Xbb B433 hb; replace B434 := Xbb B434 hb; replace B453 := Xbb B453 hb; replace B459 := Xbb B459 hb; replace B465 := Xbb B465 hb; replace B472 := Xbb B472 hb; replace HB := Xhb hb; clear hb))
  go_meet
  case rel => exact ⟨_, (true), Xr, H', Xko, ⟨by (with_reducible repeat (first | apply Kd.N_alloc | apply Kd.N_drewN | apply Kd.N_drew)); exact Kd.N_mono HO451.out (fun _ hk => ⟨hk.2.2.1, ⟨hk.2.2.2.1, ⟨hk.2.2.2.2.1, ⟨hk.2.2.2.2.2.1, ⟨hk.2.2.2.2.2.2.1, ⟨hk.2.2.2.2.2.2.2.1, ⟨hk.2.2.2.2.2.2.2.2.2.1, ⟨hk.2.2.2.2.2.2.2.2.2.2.2.1, ⟨hk.2.2.2.2.2.2.2.2.2.2.2.2.2, ⟨hk.2.2.2.2.2.2.2.2.1, ⟨hk.2.2.2.2.2.2.2.2.2.2.1, hk.2.2.2.2.2.2.2.2.2.2.2.2.1⟩⟩⟩⟩⟩⟩⟩⟩⟩⟩⟩)⟩, ⟨by (with_reducible repeat (first | apply Kd.S_alloc | apply Kd.S_drewN | apply Kd.S_drew)); exact Kd.S_mono HO458.out (fun _ hk => ⟨hk.2.2.1, ⟨hk.2.2.2.1, ⟨hk.2.2.2.2.1, ⟨hk.2.2.2.2.2.1, ⟨hk.2.2.2.2.2.2.1, hk.2.2.2.2.2.2.2⟩⟩⟩⟩⟩)⟩, ⟨by (with_reducible repeat (first | apply Kd.S_alloc | apply Kd.S_drewN | apply Kd.S_drew)); exact Kd.S_mono HO464.out (fun _ hk => ⟨hk.2.2.1, ⟨hk.2.2.2.1, ⟨hk.2.2.2.2.1, ⟨hk.2.2.2.2.2.1, hk.2.2.2.2.2.2⟩⟩⟩⟩)⟩, ⟨by (with_reducible repeat (first | apply Kd.S_alloc | apply Kd.S_drewN | apply Kd.S_drew)); exact Kd.S_mono HO470.out (fun _ hk => ⟨hk.2.2.1, ⟨hk.2.2.2.1, ⟨hk.2.2.2.2.1, hk.2.2.2.2.2⟩⟩⟩)⟩, B433, B434, B453, B459, B465, B472, ⟨Xi⟩⟩
 clear HC23
 (try clear Z38_0); (try clear Z38_1); (try clear Z38_2); (try clear Z44_0); (try clear Z44_1); (try clear Z44_2); (try clear Z48_0); (try clear Z48_1); (try clear Z48_2); (try clear Z55_0); (try clear Z55_1); (try clear Z55_2); (try clear Z58_0); (try clear Z58_1); (try clear Z58_2); (try clear Z59_0); (try clear Z59_1); (try clear Z59_2); (try clear Z67_0); (try clear Z67_1); (try clear Z67_2); (try clear F38_0); (try clear F38_1); (try clear F38_2); (try clear F44_0); (try clear F44_1); (try clear F44_2); (try clear F48_0); (try clear F48_1); (try clear F48_2); (try clear F55_0); (try clear F55_1); (try clear F55_2); (try clear F58_0); (try clear F58_1); (try clear F58_2); (try clear F59_0); (try clear F59_1); (try clear F59_2); (try clear F67_0); (try clear F67_1); (try clear F67_2)
 (try clear O_454002); (try clear O_460002); (try clear O_466002); (try clear O_473002)
 obtain ⟨kq, x53_22, rfl, HA, HJ22, O_454002, O_460002, O_466002, O_473002, B433, B434, B453, B459, B465, B472, HB⟩ := hcut
 cases kq with | zero => cases HA.out | succ kj22 => ?_
 have H := HA.out
 clear HA
 simp only [laws_FnExactSpliceSub.j0] at H
 by_cases c96 : x53_22 = true
 ·subst c96
  try rw [if_pos rfl] at H
  cases H
 replace c96 := Xbf c96
 subst c96
 try rw [if_neg Xft] at H
 replace H := Option.bind_eq_some_iff.mp H
 obtain ⟨⟨t474, t475, t476⟩, A970, H⟩ := H
 try dsimp only at H
 have A97 := Am A970
 clear A970
 obtain ⟨t479, A98, H⟩ := Xbi H
 try dsimp only at H
 have HC99 := Am H
 clear H
 try go_wp2_with (fail)
 replace O_454002 := Am (Kd.N_drew O_454002.out)
 replace O_460002 := Am (Kd.S_drew O_460002.out)
 replace O_466002 := Am (Kd.S_drew O_466002.out)
 replace O_473002 := Am (Kd.S_drew O_473002.out)
 replace B433 := Xbd B433
 replace B434 := Xbd B434
 replace B453 := Xbd B453
 replace B459 := Xbd B459
 replace B465 := Xbd B465
 replace B472 := Xbd B472
 replace HB := Xhd HB
 refine Sx 5 (fun w' => w'.cell? ⟨gb459, 0, none⟩ = some (.int .i64 t454) ∧ w'.cell? ⟨gb459, 1, none⟩ = some (.int .i64 t455) ∧ w'.cell? ⟨gb459, 2, none⟩ = some (.slice Ao45 t456.length co45) ∧ w'.cell? ⟨gb433, 0, none⟩ = some (.int .i64 a0_0) ∧ w'.cell? ⟨gb433, 1, none⟩ = some (.int .i64 a0_1) ∧ w'.cell? ⟨gb433, 2, none⟩ = some (.slice A0_2 l0_2.length c0_2)) ⟨Xk B459 0, Xk B459 1, Xk B459 2, Xk B433 0, Xk B433 1, Xk B433 2⟩ (fun hHeld => ?_)
 generalize wc.drew = w100 at O_454002 O_460002 O_466002 O_473002 B433 B434 B453 B459 B465 B472 HB hHeld ⊢
 refine take_ (i := 0) (N := some 54) (v := ?_) (a' := ?_) #[true, false, false, false, false] rfl rfl (by kernel_rfl) (fun _ _ _ h => h) (Or.inl ⟨by rfl, ?_⟩) hHeld ?_ ?_
 rotate_left
 ·rintro w' ⟨s0, s1, s2, s3, s4, s5⟩
  go_simp
  with_reducible rfl
 rotate_left
 ·simp only [XW.q0, XW.q1, XW.q2, i64_w, i32_w]
  rfl
 refine take_ (i := 1) (N := some 55) (v := ?_) (a' := ?_) #[true, true, false, false, false] rfl rfl (by kernel_rfl) (fun _ _ _ h => h) (Or.inl ⟨by rfl, ?_⟩) hHeld ?_ ?_
 rotate_left
 ·rintro w' ⟨s0, s1, s2, s3, s4, s5⟩
  go_simp
  with_reducible rfl
 rotate_left
 ·simp only [XW.q0, XW.q1, XW.q2, i64_w, i32_w]
  rfl
 refine one_ (i := 2) (N := some 56) #[true, true, true, false, false] rfl rfl (by kernel_rfl) (by decide) (fun K hK => ?_)
 refine Gs Try.func15 #[.agg #[.int .i64 a0_0, .int .i64 a0_1, .slice A0_2 l0_2.length c0_2]] ?_
 with_reducible refine (laws_toDoc.calls kj22 a0_0 a0_1 _ _ l0_2 t474 t475 t476 _ ?s1 ?s2 A97.out).mono ?_
 (case s1 => exact Xc HR0_2)
 (case s2 => exact HC0_2.out)
 rintro e w101 ⟨v477, rfl, ho0, hb⟩
 refine ⟨_, rfl, ?_⟩
 obtain ⟨z14_, hzz14_⟩ := XR.zat ho0
 have HO478 := Am (Kd.S_lower (Kd.S_new' (Kd.S_new' (Kd.S_new' (Kd.S_new' (XR.S_newZ ho0 hzz14_) (Kd.N_lt (Xq O_454002))) (Kd.S_lt (Xq O_460002))) (Kd.S_lt (Xq O_466002))) (Kd.S_lt (Xq O_473002))) (below_size Xi))
 replace O_454002 := Am (XR.N_elderZ (Xq O_454002) (Kd.S_base ho0) hb hzz14_)
 replace O_460002 := Am (XR.S_elderZ (Xq O_460002) (Kd.S_base ho0) hb hzz14_)
 replace O_466002 := Am (XR.S_elderZ (Xq O_466002) (Kd.S_base ho0) hb hzz14_)
 replace O_473002 := Am (XR.S_elderZ (Xq O_473002) (Kd.S_base ho0) hb hzz14_)
 replace B433 := Xbb B433 hb
 replace B434 := Xbb B434 hb
 replace B453 := Xbb B453 hb
 replace B459 := Xbb B459 hb
 replace B465 := Xbb B465 hb
 replace B472 := Xbb B472 hb
 replace HB := Xhb hb
 try clear hb
 try clear hb2
 try clear hk
 try clear hi
 try clear ho0
 try clear hzz14_
 obtain ⟨Ao102, co102, eo102⟩ := Kd.S_slice HO478.out
 (first | subst eo102 | (injection eo102 with f1_ f2_ f3_; have f4_ := f1_.symm; have f5_ := f3_.symm; clear f1_ f2_ f3_; subst f4_; subst f5_))
 refine hK.out _ _ ⟨Xk B459 0, Xk B459 1, Xk B459 2, Xk B433 0, Xk B433 1, Xk B433 2⟩ (fun hHeld => ?_)
 clear hK K
 refine Xno ?_
 refine one_ (i := 3) (N := some 57) #[true, true, true, true, false] rfl rfl (by kernel_rfl) (by decide) (fun K hK => ?_)
 refine Gs Try.func17 #[.agg #[.int .i64 t454, .int .i64 t455, .slice Ao45 t456.length co45], .agg #[.int .i64 t474, .int .i64 t475, .slice Ao102 t476.length co102]] ?_
 with_reducible refine (laws_eqDoc.calls kj22 t454 t455 _ _ t456 t474 t475 _ _ t476 t479 _ ?s1 ?s2 ?s3 ?s4 A98.out).mono ?_
 (case s1 => exact Xcd (Kd.S_reads' O_460002.out).2.2)
 (case s2 => exact (Kd.S_reads' O_460002.out).2.1)
 (case s3 => exact Xcd (Kd.S_reads' HO478.out).2.2)
 (case s4 => exact (Kd.S_reads' HO478.out).2.1)
 rintro e w103 ⟨rfl, hb⟩
 refine ⟨_, rfl, ?_⟩
 replace O_454002 := Am (Kd.N_below (Xq O_454002) hb)
 replace O_460002 := Am (Kd.S_below (Xq O_460002) hb)
 replace O_466002 := Am (Kd.S_below (Xq O_466002) hb)
 replace O_473002 := Am (Kd.S_below (Xq O_473002) hb)
 replace HO478 := Am (Kd.S_below (Xq HO478) hb)
 replace B433 := Xbb B433 hb
 replace B434 := Xbb B434 hb
 replace B453 := Xbb B453 hb
 replace B459 := Xbb B459 hb
 replace B465 := Xbb B465 hb
 replace B472 := Xbb B472 hb
 replace HB := Xhb hb
 try clear hb
 try clear hb2
 try clear hk
 try clear hi
 refine hK.out _ _ ⟨Xk B459 0, Xk B459 1, Xk B459 2, Xk B433 0, Xk B433 1, Xk B433 2⟩ (fun hHeld => ?_)
 clear hK K
 refine Xno ?_
 refine pure_ (i := 4) (N := some 58) (v := ?_) (a' := ?_) #[true, true, true, true, true] rfl rfl (by kernel_rfl) (fun _ _ _ h => h) (Or.inl ⟨by rfl, ?_⟩) ?_ ?_
 rotate_left
 ·intro w'
  go_simp
  with_reducible rfl
 rotate_left
 ·simp only [XW.q0, XW.q1, XW.q2, i64_w, i32_w]
  rfl
 refine done_ (by kernel_rfl) ?_
 go_upto_if 58 with (fail)
 have H := HC99.out
 clear HC99
 by_cases c104 : t479 = true
 ·subst c104
  try rw [if_pos rfl] at H
  replace H := Option.bind_eq_some_iff.mp H
  obtain ⟨⟨t480, t481, t482⟩, A1050, H⟩ := H
  try dsimp only at H
  have A105 := Am A1050
  clear A1050
  obtain ⟨t485, A106, H⟩ := Xbi H
  try dsimp only at H
  have HC107 := Am H
  clear H
  try go_wp2_with (fail)
  replace O_454002 := Am (Kd.N_drew O_454002.out)
  replace O_460002 := Am (Kd.S_drew O_460002.out)
  replace O_466002 := Am (Kd.S_drew O_466002.out)
  replace O_473002 := Am (Kd.S_drew O_473002.out)
  replace HO478 := Am (Kd.S_drew HO478.out)
  replace B433 := Xbd B433
  replace B434 := Xbd B434
  replace B453 := Xbd B453
  replace B459 := Xbd B459
  replace B465 := Xbd B465
  replace B472 := Xbd B472
  replace HB := Xhd HB
  refine Sx 5 (fun w' => w'.cell? ⟨gb465, 0, none⟩ = some (.int .i64 t460) ∧ w'.cell? ⟨gb465, 1, none⟩ = some (.int .i64 t461) ∧ w'.cell? ⟨gb465, 2, none⟩ = some (.slice Ao56 t462.length co56) ∧ w'.cell? ⟨gb434, 0, none⟩ = some (.int .i64 a1_0) ∧ w'.cell? ⟨gb434, 1, none⟩ = some (.int .i64 a1_1) ∧ w'.cell? ⟨gb434, 2, none⟩ = some (.slice A1_2 l1_2.length c1_2)) ⟨Xk B465 0, Xk B465 1, Xk B465 2, Xk B434 0, Xk B434 1, Xk B434 2⟩ (fun hHeld => ?_)
  generalize w103.drew = w108 at O_454002 O_460002 O_466002 O_473002 HO478 B433 B434 B453 B459 B465 B472 HB hHeld ⊢
  refine take_ (i := 0) (N := some 59) (v := ?_) (a' := ?_) #[true, false, false, false, false] rfl rfl (by kernel_rfl) (fun _ _ _ h => h) (Or.inl ⟨by rfl, ?_⟩) hHeld ?_ ?_
  rotate_left
  ·rintro w' ⟨s0, s1, s2, s3, s4, s5⟩
   go_simp
   with_reducible rfl
  rotate_left
  ·simp only [XW.q0, XW.q1, XW.q2, i64_w, i32_w]
   rfl
  refine take_ (i := 1) (N := some 60) (v := ?_) (a' := ?_) #[true, true, false, false, false] rfl rfl (by kernel_rfl) (fun _ _ _ h => h) (Or.inl ⟨by rfl, ?_⟩) hHeld ?_ ?_
  rotate_left
  ·rintro w' ⟨s0, s1, s2, s3, s4, s5⟩
   go_simp
   with_reducible rfl
  rotate_left
  ·simp only [XW.q0, XW.q1, XW.q2, i64_w, i32_w]
   rfl
  refine one_ (i := 2) (N := some 61) #[true, true, true, false, false] rfl rfl (by kernel_rfl) (by decide) (fun K hK => ?_)
  refine Gs Try.func15 #[.agg #[.int .i64 a1_0, .int .i64 a1_1, .slice A1_2 l1_2.length c1_2]] ?_
  with_reducible refine (laws_toDoc.calls kj22 a1_0 a1_1 _ _ l1_2 t480 t481 t482 _ ?s1 ?s2 A105.out).mono ?_
  (case s1 => exact Xc HR1_2)
  (case s2 => exact HC1_2.out)
  rintro e w109 ⟨v483, rfl, ho0, hb⟩
  refine ⟨_, rfl, ?_⟩
  obtain ⟨z15_, hzz15_⟩ := XR.zat ho0
  have HO484 := Am (Kd.S_lower (Kd.S_new' (Kd.S_new' (Kd.S_new' (Kd.S_new' (Kd.S_new' (XR.S_newZ ho0 hzz15_) (Kd.N_lt (Xq O_454002))) (Kd.S_lt (Xq O_460002))) (Kd.S_lt (Xq O_466002))) (Kd.S_lt (Xq O_473002))) (Kd.S_lt (Xq HO478))) (below_size Xi))
  replace O_454002 := Am (XR.N_elderZ (Xq O_454002) (Kd.S_base ho0) hb hzz15_)
  replace O_460002 := Am (XR.S_elderZ (Xq O_460002) (Kd.S_base ho0) hb hzz15_)
  replace O_466002 := Am (XR.S_elderZ (Xq O_466002) (Kd.S_base ho0) hb hzz15_)
  replace O_473002 := Am (XR.S_elderZ (Xq O_473002) (Kd.S_base ho0) hb hzz15_)
  replace HO478 := Am (XR.S_elderZ (Xq HO478) (Kd.S_base ho0) hb hzz15_)
  replace B433 := Xbb B433 hb
  replace B434 := Xbb B434 hb
  replace B453 := Xbb B453 hb
  replace B459 := Xbb B459 hb
  replace B465 := Xbb B465 hb
  replace B472 := Xbb B472 hb
  replace HB := Xhb hb
  try clear hb
  try clear hb2
  try clear hk
  try clear hi
  try clear ho0
  try clear hzz15_
  obtain ⟨Ao110, co110, eo110⟩ := Kd.S_slice HO484.out
  (first | subst eo110 | (injection eo110 with f1_ f2_ f3_; have f4_ := f1_.symm; have f5_ := f3_.symm; clear f1_ f2_ f3_; subst f4_; subst f5_))
  refine hK.out _ _ ⟨Xk B465 0, Xk B465 1, Xk B465 2, Xk B434 0, Xk B434 1, Xk B434 2⟩ (fun hHeld => ?_)
  clear hK K
  refine Xno ?_
  refine one_ (i := 3) (N := some 62) #[true, true, true, true, false] rfl rfl (by kernel_rfl) (by decide) (fun K hK => ?_)
  refine Gs Try.func17 #[.agg #[.int .i64 t460, .int .i64 t461, .slice Ao56 t462.length co56], .agg #[.int .i64 t480, .int .i64 t481, .slice Ao110 t482.length co110]] ?_
  with_reducible refine (laws_eqDoc.calls kj22 t460 t461 _ _ t462 t480 t481 _ _ t482 t485 _ ?s1 ?s2 ?s3 ?s4 A106.out).mono ?_
  (case s1 => exact Xcd (Kd.S_reads' O_466002.out).2.2)
  (case s2 => exact (Kd.S_reads' O_466002.out).2.1)
  (case s3 => exact Xcd (Kd.S_reads' HO484.out).2.2)
  (case s4 => exact (Kd.S_reads' HO484.out).2.1)
  rintro e w111 ⟨rfl, hb⟩
  refine ⟨_, rfl, ?_⟩
  replace O_454002 := Am (Kd.N_below (Xq O_454002) hb)
  replace O_460002 := Am (Kd.S_below (Xq O_460002) hb)
  replace O_466002 := Am (Kd.S_below (Xq O_466002) hb)
  replace O_473002 := Am (Kd.S_below (Xq O_473002) hb)
  replace HO478 := Am (Kd.S_below (Xq HO478) hb)
  replace HO484 := Am (Kd.S_below (Xq HO484) hb)
  replace B433 := Xbb B433 hb
  replace B434 := Xbb B434 hb
  replace B453 := Xbb B453 hb
  replace B459 := Xbb B459 hb
  replace B465 := Xbb B465 hb
  replace B472 := Xbb B472 hb
  replace HB := Xhb hb
  try clear hb
  try clear hb2
  try clear hk
  try clear hi
  refine hK.out _ _ ⟨Xk B465 0, Xk B465 1, Xk B465 2, Xk B434 0, Xk B434 1, Xk B434 2⟩ (fun hHeld => ?_)
  clear hK K
  refine Xno ?_
  refine pure_ (i := 4) (N := some 63) (v := ?_) (a' := ?_) #[true, true, true, true, true] rfl rfl (by kernel_rfl) (fun _ _ _ h => h) (Or.inl ⟨by rfl, ?_⟩) ?_ ?_
  rotate_left
  ·intro w'
   go_simp
   with_reducible rfl
  rotate_left
  ·simp only [XW.q0, XW.q1, XW.q2, i64_w, i32_w]
   rfl
  refine done_ (by kernel_rfl) ?_
  go_upto_if 63 with (fail)
  have H := HC107.out
  clear HC107
  by_cases c112 : t485 = true
  ·subst c112
   try rw [if_pos rfl] at H
   replace H := Option.bind_eq_some_iff.mp H
   obtain ⟨⟨t486, t487⟩, A1130, H⟩ := H
   try dsimp only at H
   have A113 := Am A1130
   clear A1130
   replace H := Option.bind_eq_some_iff.mp H
   obtain ⟨⟨t488, t489⟩, A1140, H⟩ := H
   try dsimp only at H
   have A114 := Am A1140
   clear A1140
   have HC115 := Am H
   clear H
   have hnb116 := NB459_433.out
   have hnc116 := NB433_459.out
   have hnb117 := NB459_434.out
   have hnc117 := NB434_459.out
   have hnb118 := NB459_453.out
   have hnc118 := NB453_459.out
   have hnb119 := NB459_465.out
   have hnc119 := NB465_459.out
   have hnb120 := NB459_472.out
   have hnc120 := NB472_459.out
   obtain ⟨Z121_0, Z121_1, Z121_2⟩ := Xc3 B459
   obtain ⟨F121_0, F121_1, F121_2⟩ := Xf3 B459
   go_upto_region 21 with (first | ((with_reducible refine gate_callee (f := 29) rfl ?_); refine Xgo 66 Try.func29 #[.agg #[.int .i64 t454, .int .i64 t455, .slice Ao45 t456.length co45], .int .i64 1] ?_; (with_reducible refine (laws_markDoc.calls kj22 t454 t455 (fun k_ => (((((((((((some k_ ≠ (.slice Ao34 t449.length co34 : Value).ownBlock ∧ (some k_ ≠ (.slice Ao56 t462.length co56 : Value).ownBlock ∧ (some k_ ≠ (.slice Ao68 t468.length co68 : Value).ownBlock ∧ (k_ ≠ XR.zge z11_ k_ ∧ (k_ ≠ XR.zlt z12_ k_ ∧ k_ ≠ XR.zlt z13_ k_))))) ∧ some k_ ≠ (.slice Ao102 t476.length co102 : Value).ownBlock) ∧ k_ ≠ XR.zlt z14_ k_) ∧ some k_ ≠ (.slice Ao110 t482.length co110 : Value).ownBlock) ∧ k_ ≠ XR.zlt z15_ k_) ∧ k_ ≠ gb433) ∧ k_ ≠ gb434) ∧ k_ ≠ gb453) ∧ k_ ≠ gb459) ∧ k_ ≠ gb465) ∧ k_ ≠ gb472)) (.slice Ao45 t456.length co45) t456 1 t486 t487 w _ ?s1 ?s2 A113.out).mono ?_); (case s1 => exact Xi); (case s2 => (with_reducible repeat (first | apply Kd.S_alloc | apply Kd.S_drewN | apply Kd.S_drew)); exact (Kd.S_types (Kd.S_types (Kd.S_types (Kd.S_types (Kd.S_types (Kd.S_types O_460002.out B433.out (by decide)) B434.out (by decide)) B453.out (by decide)) B459.out (by decide)) B465.out (by decide)) B472.out (by decide))); rintro e w122 ⟨rfl, hy0, hb, hkp⟩; refine ⟨_, rfl, ?_⟩; replace O_454002 := Am (Kd.N_mono (Kd.N_keptB (O_454002.out) hkp (fun k_ hk_ hs_ => XR.zno (hs_.1.1.1.1.1.1.1.1.1.1.2.2.2.1) (hk_.1.1.1.1.2.2.2.2.2.2.2.2.2.1))) (fun _ hk_ => hk_.1)); replace O_460002 := Am (hy0); replace O_466002 := Am (Kd.S_mono (Kd.S_keptB (O_466002.out) hkp (fun k_ hk_ hs_ => XR.zno (hk_.1.1.1.1.2.2.2.1) (hs_.1.1.1.1.1.1.1.1.1.1.2.2.2.2.1))) (fun _ hk_ => hk_.1)); replace O_473002 := Am (Kd.S_mono (Kd.S_keptB (O_473002.out) hkp (fun k_ hk_ hs_ => XR.zno (hk_.1.1.1.1.2.2.2) (hs_.1.1.1.1.1.1.1.1.1.1.2.2.2.2.2))) (fun _ hk_ => hk_.1)); replace B433 := Am (blk_kept B433.out hkp (fun hs_ => (hs_.1.1.1.1.1.2) rfl)); replace B434 := Am (blk_kept B434.out hkp (fun hs_ => (hs_.1.1.1.1.2) rfl)); replace B453 := Am (blk_kept B453.out hkp (fun hs_ => (hs_.1.1.1.2) rfl)); replace B459 := Am (blk_kept B459.out hkp (fun hs_ => (hs_.1.1.2) rfl)); replace B465 := Am (blk_kept B465.out hkp (fun hs_ => (hs_.1.2) rfl)); replace B472 := Am (blk_kept B472.out hkp (fun hs_ => (hs_.2) rfl)); replace HO478 := Am (Kd.S_mono (Kd.S_keptB (HO478.out) hkp (fun k_ hk_ hs_ => XR.zno (hk_.1.1.1.1.1.1.2) (hs_.1.1.1.1.1.1.1.1.2))) (fun _ hk_ => hk_.1)); replace HO484 := Am (Kd.S_mono (Kd.S_keptB (HO484.out) hkp (fun k_ hk_ hs_ => XR.zno (hk_.1.1.1.1.1.2) (hs_.1.1.1.1.1.1.2))) (fun _ hk_ => hk_.1)); replace HB := Am (hb); (try clear hb); (try clear hkp); (try clear hy0); have hnb123 := NB465_433.out; have hnc123 := NB433_465.out; have hnb124 := NB465_434.out; have hnc124 := NB434_465.out; have hnb125 := NB465_453.out; have hnc125 := NB453_465.out; have hnb126 := NB465_472.out; have hnc126 := NB472_465.out; obtain ⟨Z127_0, Z127_1, Z127_2⟩ := Xc3 B465; obtain ⟨F127_0, F127_1, F127_2⟩ := Xf3 B465) | ((with_reducible refine gate_callee (f := 29) rfl ?_); refine Xgo 69 Try.func29 #[.agg #[.int .i64 t460, .int .i64 t461, .slice Ao56 t462.length co56], .int .i64 t486] ?_; (with_reducible refine (laws_markDoc.calls kj22 t460 t461 (fun k_ => (((((((((((some k_ ≠ (.slice Ao34 t449.length co34 : Value).ownBlock ∧ (some k_ ≠ (.slice Ao45 t456.length co45 : Value).ownBlock ∧ (some k_ ≠ (.slice Ao68 t468.length co68 : Value).ownBlock ∧ (k_ ≠ XR.zge z12_ k_ ∧ k_ ≠ XR.zlt z13_ k_)))) ∧ some k_ ≠ (.slice Ao102 t476.length co102 : Value).ownBlock) ∧ k_ ≠ XR.zlt z14_ k_) ∧ some k_ ≠ (.slice Ao110 t482.length co110 : Value).ownBlock) ∧ k_ ≠ XR.zlt z15_ k_) ∧ k_ ≠ gb433) ∧ k_ ≠ gb434) ∧ k_ ≠ gb453) ∧ k_ ≠ gb459) ∧ k_ ≠ gb465) ∧ k_ ≠ gb472)) (.slice Ao56 t462.length co56) t462 t486 t488 t489 w _ ?s1 ?s2 A114.out).mono ?_); (case s1 => exact Xi); (case s2 => (with_reducible repeat (first | apply Kd.S_alloc | apply Kd.S_drewN | apply Kd.S_drew)); exact (Kd.S_types (Kd.S_types (Kd.S_types (Kd.S_types (Kd.S_types (Kd.S_types O_466002.out B433.out (by decide)) B434.out (by decide)) B453.out (by decide)) B459.out (by decide)) B465.out (by decide)) B472.out (by decide))); rintro e w128 ⟨rfl, hy0, hb, hkp⟩; refine ⟨_, rfl, ?_⟩; replace O_454002 := Am (Kd.N_mono (Kd.N_keptB (O_454002.out) hkp (fun k_ hk_ hs_ => XR.zno (hs_.1.1.1.1.1.1.1.1.1.1.2.2.2.1) (hk_.1.1.1.1.2.2.2.2.2.2.2.2.2.2.1))) (fun _ hk_ => hk_.1)); replace O_460002 := Am (Kd.S_mono (Kd.S_keptB (O_460002.out) hkp (fun k_ hk_ hs_ => XR.zno (hs_.1.1.1.1.1.1.1.1.1.1.2.2.2.1) (hk_.1.1.1.1.1.1.1.1.1.1.2.2.2.2.1))) (fun _ hk_ => hk_.1)); replace O_466002 := Am (hy0); replace O_473002 := Am (Kd.S_mono (Kd.S_keptB (O_473002.out) hkp (fun k_ hk_ hs_ => XR.zno (hk_.1.1.1.1.2.2.2) (hs_.1.1.1.1.1.1.1.1.1.1.2.2.2.2))) (fun _ hk_ => hk_.1)); replace B433 := Am (blk_kept B433.out hkp (fun hs_ => (hs_.1.1.1.1.1.2) rfl)); replace B434 := Am (blk_kept B434.out hkp (fun hs_ => (hs_.1.1.1.1.2) rfl)); replace B453 := Am (blk_kept B453.out hkp (fun hs_ => (hs_.1.1.1.2) rfl)); replace B459 := Am (blk_kept B459.out hkp (fun hs_ => (hs_.1.1.2) rfl)); replace B465 := Am (blk_kept B465.out hkp (fun hs_ => (hs_.1.2) rfl)); replace B472 := Am (blk_kept B472.out hkp (fun hs_ => (hs_.2) rfl)); replace HO478 := Am (Kd.S_mono (Kd.S_keptB (HO478.out) hkp (fun k_ hk_ hs_ => XR.zno (hk_.1.1.1.1.1.1.2) (hs_.1.1.1.1.1.1.1.1.2))) (fun _ hk_ => hk_.1)); replace HO484 := Am (Kd.S_mono (Kd.S_keptB (HO484.out) hkp (fun k_ hk_ hs_ => XR.zno (hk_.1.1.1.1.1.2) (hs_.1.1.1.1.1.1.2))) (fun _ hk_ => hk_.1)); replace HB := Am (hb); (try clear hb); (try clear hkp); (try clear hy0)))
   (try simp only [XW.q0, XW.q1, XW.q2])
   go_cut [82] (fun v82 wc => ∃ (kq : Nat) (x82_114 : Bool), v82 = .bool x82_114 ∧ Aside0 (laws_FnExactSpliceSub.j1 kq t452 x82_114 a0_0 a0_1 l0_2 a1_0 a1_1 l1_2 t447 t448 t449 t466 t467 t468 = some true) ∧ Aside0 (kq ≤ kj22) ∧ Aside0 (Kd.N k43 43 wc w.heap.size (fun k_ => some k_ ≠ ((.slice Ao45 t456.length co45) : Value).ownBlock ∧ some k_ ≠ ((.slice Ao56 t462.length co56) : Value).ownBlock ∧ some k_ ≠ ((.slice Ao68 t468.length co68) : Value).ownBlock ∧ k_ ≠ gb433 ∧ k_ ≠ gb434 ∧ k_ ≠ gb453 ∧ k_ ≠ gb459 ∧ k_ ≠ gb465 ∧ k_ ≠ gb472 ∧ k_ ≠ XR.zlt z11_ k_ ∧ k_ ≠ XR.zlt z12_ k_ ∧ k_ ≠ XR.zlt z13_ k_ ∧ k_ ≠ XR.zlt z14_ k_ ∧ k_ ≠ XR.zlt z15_ k_) (.slice Ao34 t449.length co34) t449) ∧ Aside0 (Kd.S k43 43 wc w.heap.size (fun k_ => some k_ ≠ ((.slice Ao34 t449.length co34) : Value).ownBlock ∧ some k_ ≠ ((.slice Ao56 t462.length co56) : Value).ownBlock ∧ some k_ ≠ ((.slice Ao68 t468.length co68) : Value).ownBlock ∧ k_ ≠ XR.zge z11_ k_ ∧ k_ ≠ XR.zlt z12_ k_ ∧ k_ ≠ XR.zlt z13_ k_ ∧ k_ ≠ XR.zlt z14_ k_ ∧ k_ ≠ XR.zlt z15_ k_) (.slice Ao45 t456.length co45) t487) ∧ Aside0 (Kd.S k43 43 wc w.heap.size (fun k_ => some k_ ≠ ((.slice Ao34 t449.length co34) : Value).ownBlock ∧ some k_ ≠ ((.slice Ao45 t456.length co45) : Value).ownBlock ∧ some k_ ≠ ((.slice Ao68 t468.length co68) : Value).ownBlock ∧ k_ ≠ XR.zge z12_ k_ ∧ k_ ≠ XR.zlt z13_ k_ ∧ k_ ≠ XR.zlt z14_ k_ ∧ k_ ≠ XR.zlt z15_ k_) (.slice Ao56 t462.length co56) t489) ∧ Aside0 (Kd.S k43 43 wc w.heap.size (fun k_ => some k_ ≠ ((.slice Ao34 t449.length co34) : Value).ownBlock ∧ some k_ ≠ ((.slice Ao45 t456.length co45) : Value).ownBlock ∧ some k_ ≠ ((.slice Ao56 t462.length co56) : Value).ownBlock ∧ k_ ≠ XR.zge z13_ k_ ∧ k_ ≠ XR.zlt z14_ k_ ∧ k_ ≠ XR.zlt z15_ k_) (.slice Ao68 t468.length co68) t468) ∧ Aside0 (wc.heap[gb433]? = some (.cells #[.int .i64 a0_0, .int .i64 a0_1, (.slice A0_2 l0_2.length c0_2)] 24 (0, 0))) ∧ Aside0 (wc.heap[gb434]? = some (.cells #[.int .i64 a1_0, .int .i64 a1_1, (.slice A1_2 l1_2.length c1_2)] 24 (0, 0))) ∧ Aside0 (wc.heap[gb453]? = some (.cells #[.int .i64 t447, .int .i64 t448, (.slice Ao34 t449.length co34)] 29 (0, 0))) ∧ Aside0 (wc.heap[gb459]? = some (.cells #[.int .i64 t454, .int .i64 t455, (.slice Ao45 t456.length co45)] 29 (0, 0))) ∧ Aside0 (wc.heap[gb465]? = some (.cells #[.int .i64 t460, .int .i64 t461, (.slice Ao56 t462.length co56)] 29 (0, 0))) ∧ Aside0 (wc.heap[gb472]? = some (.cells #[.int .i64 t466, .int .i64 t467, (.slice Ao68 t468.length co68)] 29 (0, 0))) ∧ Aside0 (Below w.heap.size w wc))
   case first =>
    have H := HC115.out
    clear HC115
    obtain ⟨c129b0, H⟩ | ⟨c129b0, H⟩ := Xit H
    ·(first | rw [c129b0] | (simp only [i64_w, i32_w]; rw [c129b0]) | skip)
     have H' := Am H
     clear H
     go_wp2
     go_meet
     case rel => exact ⟨_, (true), Xr, H', ⟨by have := HJ22.out; first | omega | exact Nat.le_refl _⟩, ⟨by (with_reducible repeat (first | apply Kd.N_alloc | apply Kd.N_drewN | apply Kd.N_drew)); exact Kd.N_mono O_454002.out (fun _ hk => ⟨hk.1.1.1.1.1, ⟨hk.1.1.1.1.2.1, ⟨hk.1.1.1.1.2.2.1, ⟨hk.1.1.1.1.2.2.2.1, ⟨hk.1.1.1.1.2.2.2.2.1, ⟨hk.1.1.1.1.2.2.2.2.2.1, ⟨hk.1.1.1.1.2.2.2.2.2.2.1, ⟨hk.1.1.1.1.2.2.2.2.2.2.2.1, ⟨hk.1.1.1.1.2.2.2.2.2.2.2.2.1, ⟨hk.1.1.1.1.2.2.2.2.2.2.2.2.2.1, ⟨hk.1.1.1.1.2.2.2.2.2.2.2.2.2.2.1, ⟨hk.1.1.1.1.2.2.2.2.2.2.2.2.2.2.2, ⟨hk.1.1.2, hk.2⟩⟩⟩⟩⟩⟩⟩⟩⟩⟩⟩⟩⟩)⟩, ⟨by (with_reducible repeat (first | apply Kd.S_alloc | apply Kd.S_drewN | apply Kd.S_drew)); exact Kd.S_mono O_460002.out (fun _ hk => ⟨hk.1.1.1.1.1.1.1.1.1.1.1, ⟨hk.1.1.1.1.1.1.1.1.1.1.2.1, ⟨hk.1.1.1.1.1.1.1.1.1.1.2.2.1, ⟨hk.1.1.1.1.1.1.1.1.1.1.2.2.2.1, ⟨hk.1.1.1.1.1.1.1.1.1.1.2.2.2.2.1, ⟨hk.1.1.1.1.1.1.1.1.1.1.2.2.2.2.2, ⟨hk.1.1.1.1.1.1.1.1.2, hk.1.1.1.1.1.1.2⟩⟩⟩⟩⟩⟩⟩)⟩, ⟨by (with_reducible repeat (first | apply Kd.S_alloc | apply Kd.S_drewN | apply Kd.S_drew)); exact Kd.S_mono O_466002.out (fun _ hk => ⟨hk.1.1.1.1.1.1.1.1.1.1.1, ⟨hk.1.1.1.1.1.1.1.1.1.1.2.1, ⟨hk.1.1.1.1.1.1.1.1.1.1.2.2.1, ⟨hk.1.1.1.1.1.1.1.1.1.1.2.2.2.1, ⟨hk.1.1.1.1.1.1.1.1.1.1.2.2.2.2, ⟨hk.1.1.1.1.1.1.1.1.2, hk.1.1.1.1.1.1.2⟩⟩⟩⟩⟩⟩)⟩, ⟨by (with_reducible repeat (first | apply Kd.S_alloc | apply Kd.S_drewN | apply Kd.S_drew)); exact Kd.S_mono O_473002.out (fun _ hk => ⟨hk.1.1.1.1.1, ⟨hk.1.1.1.1.2.1, ⟨hk.1.1.1.1.2.2.1, ⟨hk.1.1.1.1.2.2.2, ⟨hk.1.1.2, hk.2⟩⟩⟩⟩⟩)⟩, B433, B434, B453, B459, B465, B472, ⟨Xi⟩⟩
    (first | rw [c129b0] | (simp only [i64_w, i32_w]; rw [c129b0]) | skip)
    obtain ⟨t490, A130, H⟩ := Xbi H
    try dsimp only at H
    by_cases c131 : t490 = true
    ·subst c131
     try rw [if_pos rfl] at H
     have H' := Am H
     clear H
     have hnb132 := NB472_433.out
     have hnc132 := NB433_472.out
     have hnb133 := NB472_434.out
     have hnc133 := NB434_472.out
     have hnb134 := NB472_453.out
     have hnc134 := NB453_472.out
     have hnb135 := NB472_459.out
     have hnc135 := NB459_472.out
     have hnb136 := NB472_465.out
     have hnc136 := NB465_472.out
     obtain ⟨Z137_0, Z137_1, Z137_2⟩ := Xc3 B472
     obtain ⟨F137_0, F137_1, F137_2⟩ := Xf3 B472
     have hnb138 := NB453_433.out
     have hnc138 := NB433_453.out
     have hnb139 := NB453_434.out
     have hnc139 := NB434_453.out
     have hnb140 := NB453_459.out
     have hnc140 := NB459_453.out
     have hnb141 := NB453_465.out
     have hnc141 := NB465_453.out
     obtain ⟨Z142_0, Z142_1, Z142_2⟩ := Xc3 B453
     obtain ⟨F142_0, F142_1, F142_2⟩ := Xf3 B453
     go_wp2_with (first | (go_at_call 17; (with_reducible refine (laws_eqDoc.calls kj22 t466 t467 _ _ t468 t447 t448 _ _ t449 true _ ?s1 ?s2 ?s3 ?s4 A130.out).mono ?_); (case s1 => exact Xcd (Kd.S_reads' O_473002.out).2.2); (case s2 => exact (Kd.S_reads' O_473002.out).2.1); (case s3 => exact Xcd (Kd.N_reads' O_454002.out).2.2); (case s4 => exact (Kd.N_reads' O_454002.out).2.1); rintro e w143 ⟨rfl, hb⟩; replace O_454002 := Am (Kd.N_below (Xq O_454002) hb); replace O_460002 := Am (Kd.S_below (Xq O_460002) hb); replace O_466002 := Am (Kd.S_below (Xq O_466002) hb); replace O_473002 := Am (Kd.S_below (Xq O_473002) hb); replace HO478 := Am (Kd.S_below (Xq HO478) hb); replace HO484 := Am (Kd.S_below (Xq HO484) hb); replace B433 := Xbb B433 hb; replace B434 := Xbb B434 hb; replace B453 := Xbb B453 hb; replace B459 := Xbb B459 hb; replace B465 := Xbb B465 hb; replace B472 := Xbb B472 hb; replace HB := Xhb hb; clear hb))
     go_meet
     case rel => exact ⟨_, ((t471 != t452)), Xr, H', ⟨by have := HJ22.out; first | omega | exact Nat.le_refl _⟩, ⟨by (with_reducible repeat (first | apply Kd.N_alloc | apply Kd.N_drewN | apply Kd.N_drew)); exact Kd.N_mono O_454002.out (fun _ hk => ⟨hk.1.1.1.1.1, ⟨hk.1.1.1.1.2.1, ⟨hk.1.1.1.1.2.2.1, ⟨hk.1.1.1.1.2.2.2.1, ⟨hk.1.1.1.1.2.2.2.2.1, ⟨hk.1.1.1.1.2.2.2.2.2.1, ⟨hk.1.1.1.1.2.2.2.2.2.2.1, ⟨hk.1.1.1.1.2.2.2.2.2.2.2.1, ⟨hk.1.1.1.1.2.2.2.2.2.2.2.2.1, ⟨hk.1.1.1.1.2.2.2.2.2.2.2.2.2.1, ⟨hk.1.1.1.1.2.2.2.2.2.2.2.2.2.2.1, ⟨hk.1.1.1.1.2.2.2.2.2.2.2.2.2.2.2, ⟨hk.1.1.2, hk.2⟩⟩⟩⟩⟩⟩⟩⟩⟩⟩⟩⟩⟩)⟩, ⟨by (with_reducible repeat (first | apply Kd.S_alloc | apply Kd.S_drewN | apply Kd.S_drew)); exact Kd.S_mono O_460002.out (fun _ hk => ⟨hk.1.1.1.1.1.1.1.1.1.1.1, ⟨hk.1.1.1.1.1.1.1.1.1.1.2.1, ⟨hk.1.1.1.1.1.1.1.1.1.1.2.2.1, ⟨hk.1.1.1.1.1.1.1.1.1.1.2.2.2.1, ⟨hk.1.1.1.1.1.1.1.1.1.1.2.2.2.2.1, ⟨hk.1.1.1.1.1.1.1.1.1.1.2.2.2.2.2, ⟨hk.1.1.1.1.1.1.1.1.2, hk.1.1.1.1.1.1.2⟩⟩⟩⟩⟩⟩⟩)⟩, ⟨by (with_reducible repeat (first | apply Kd.S_alloc | apply Kd.S_drewN | apply Kd.S_drew)); exact Kd.S_mono O_466002.out (fun _ hk => ⟨hk.1.1.1.1.1.1.1.1.1.1.1, ⟨hk.1.1.1.1.1.1.1.1.1.1.2.1, ⟨hk.1.1.1.1.1.1.1.1.1.1.2.2.1, ⟨hk.1.1.1.1.1.1.1.1.1.1.2.2.2.1, ⟨hk.1.1.1.1.1.1.1.1.1.1.2.2.2.2, ⟨hk.1.1.1.1.1.1.1.1.2, hk.1.1.1.1.1.1.2⟩⟩⟩⟩⟩⟩)⟩, ⟨by (with_reducible repeat (first | apply Kd.S_alloc | apply Kd.S_drewN | apply Kd.S_drew)); exact Kd.S_mono O_473002.out (fun _ hk => ⟨hk.1.1.1.1.1, ⟨hk.1.1.1.1.2.1, ⟨hk.1.1.1.1.2.2.1, ⟨hk.1.1.1.1.2.2.2, ⟨hk.1.1.2, hk.2⟩⟩⟩⟩⟩)⟩, B433, B434, B453, B459, B465, B472, ⟨Xi⟩⟩
    replace c131 := Xbf c131
    subst c131
    try rw [if_neg Xft] at H
    have H' := Am H
    clear H
    have hnb144 := NB472_433.out
    have hnc144 := NB433_472.out
    have hnb145 := NB472_434.out
    have hnc145 := NB434_472.out
    have hnb146 := NB472_453.out
    have hnc146 := NB453_472.out
    have hnb147 := NB472_459.out
    have hnc147 := NB459_472.out
    have hnb148 := NB472_465.out
    have hnc148 := NB465_472.out
    obtain ⟨Z149_0, Z149_1, Z149_2⟩ := Xc3 B472
    obtain ⟨F149_0, F149_1, F149_2⟩ := Xf3 B472
    have hnb150 := NB453_433.out
    have hnc150 := NB433_453.out
    have hnb151 := NB453_434.out
    have hnc151 := NB434_453.out
    have hnb152 := NB453_459.out
    have hnc152 := NB459_453.out
    have hnb153 := NB453_465.out
    have hnc153 := NB465_453.out
    obtain ⟨Z154_0, Z154_1, Z154_2⟩ := Xc3 B453
    obtain ⟨F154_0, F154_1, F154_2⟩ := Xf3 B453
    go_wp2_with (first | (go_at_call 17; (with_reducible refine (laws_eqDoc.calls kj22 t466 t467 _ _ t468 t447 t448 _ _ t449 false _ ?s1 ?s2 ?s3 ?s4 A130.out).mono ?_); (case s1 => exact Xcd (Kd.S_reads' O_473002.out).2.2); (case s2 => exact (Kd.S_reads' O_473002.out).2.1); (case s3 => exact Xcd (Kd.N_reads' O_454002.out).2.2); (case s4 => exact (Kd.N_reads' O_454002.out).2.1); rintro e w155 ⟨rfl, hb⟩; replace O_454002 := Am (Kd.N_below (Xq O_454002) hb); replace O_460002 := Am (Kd.S_below (Xq O_460002) hb); replace O_466002 := Am (Kd.S_below (Xq O_466002) hb); replace O_473002 := Am (Kd.S_below (Xq O_473002) hb); replace HO478 := Am (Kd.S_below (Xq HO478) hb); replace HO484 := Am (Kd.S_below (Xq HO484) hb); replace B433 := Xbb B433 hb; replace B434 := Xbb B434 hb; replace B453 := Xbb B453 hb; replace B459 := Xbb B459 hb; replace B465 := Xbb B465 hb; replace B472 := Xbb B472 hb; replace HB := Xhb hb; clear hb))
    go_meet
    case rel => exact ⟨_, (true), Xr, H', ⟨by have := HJ22.out; first | omega | exact Nat.le_refl _⟩, ⟨by (with_reducible repeat (first | apply Kd.N_alloc | apply Kd.N_drewN | apply Kd.N_drew)); exact Kd.N_mono O_454002.out (fun _ hk => ⟨hk.1.1.1.1.1, ⟨hk.1.1.1.1.2.1, ⟨hk.1.1.1.1.2.2.1, ⟨hk.1.1.1.1.2.2.2.1, ⟨hk.1.1.1.1.2.2.2.2.1, ⟨hk.1.1.1.1.2.2.2.2.2.1, ⟨hk.1.1.1.1.2.2.2.2.2.2.1, ⟨hk.1.1.1.1.2.2.2.2.2.2.2.1, ⟨hk.1.1.1.1.2.2.2.2.2.2.2.2.1, ⟨hk.1.1.1.1.2.2.2.2.2.2.2.2.2.1, ⟨hk.1.1.1.1.2.2.2.2.2.2.2.2.2.2.1, ⟨hk.1.1.1.1.2.2.2.2.2.2.2.2.2.2.2, ⟨hk.1.1.2, hk.2⟩⟩⟩⟩⟩⟩⟩⟩⟩⟩⟩⟩⟩)⟩, ⟨by (with_reducible repeat (first | apply Kd.S_alloc | apply Kd.S_drewN | apply Kd.S_drew)); exact Kd.S_mono O_460002.out (fun _ hk => ⟨hk.1.1.1.1.1.1.1.1.1.1.1, ⟨hk.1.1.1.1.1.1.1.1.1.1.2.1, ⟨hk.1.1.1.1.1.1.1.1.1.1.2.2.1, ⟨hk.1.1.1.1.1.1.1.1.1.1.2.2.2.1, ⟨hk.1.1.1.1.1.1.1.1.1.1.2.2.2.2.1, ⟨hk.1.1.1.1.1.1.1.1.1.1.2.2.2.2.2, ⟨hk.1.1.1.1.1.1.1.1.2, hk.1.1.1.1.1.1.2⟩⟩⟩⟩⟩⟩⟩)⟩, ⟨by (with_reducible repeat (first | apply Kd.S_alloc | apply Kd.S_drewN | apply Kd.S_drew)); exact Kd.S_mono O_466002.out (fun _ hk => ⟨hk.1.1.1.1.1.1.1.1.1.1.1, ⟨hk.1.1.1.1.1.1.1.1.1.1.2.1, ⟨hk.1.1.1.1.1.1.1.1.1.1.2.2.1, ⟨hk.1.1.1.1.1.1.1.1.1.1.2.2.2.1, ⟨hk.1.1.1.1.1.1.1.1.1.1.2.2.2.2, ⟨hk.1.1.1.1.1.1.1.1.2, hk.1.1.1.1.1.1.2⟩⟩⟩⟩⟩⟩)⟩, ⟨by (with_reducible repeat (first | apply Kd.S_alloc | apply Kd.S_drewN | apply Kd.S_drew)); exact Kd.S_mono O_473002.out (fun _ hk => ⟨hk.1.1.1.1.1, ⟨hk.1.1.1.1.2.1, ⟨hk.1.1.1.1.2.2.1, ⟨hk.1.1.1.1.2.2.2, ⟨hk.1.1.2, hk.2⟩⟩⟩⟩⟩)⟩, B433, B434, B453, B459, B465, B472, ⟨Xi⟩⟩
   clear HC115
   (try clear c10); (try clear c96); (try clear c104); (try clear c112); (try clear Z121_0); (try clear Z121_1); (try clear Z121_2); (try clear Z127_0); (try clear Z127_1); (try clear Z127_2); (try clear Z38_0); (try clear Z38_1); (try clear Z38_2); (try clear Z44_0); (try clear Z44_1); (try clear Z44_2); (try clear Z48_0); (try clear Z48_1); (try clear Z48_2); (try clear Z55_0); (try clear Z55_1); (try clear Z55_2); (try clear Z58_0); (try clear Z58_1); (try clear Z58_2); (try clear Z59_0); (try clear Z59_1); (try clear Z59_2); (try clear Z67_0); (try clear Z67_1); (try clear Z67_2); (try clear F121_0); (try clear F121_1); (try clear F121_2); (try clear F127_0); (try clear F127_1); (try clear F127_2); (try clear F38_0); (try clear F38_1); (try clear F38_2); (try clear F44_0); (try clear F44_1); (try clear F44_2); (try clear F48_0); (try clear F48_1); (try clear F48_2); (try clear F55_0); (try clear F55_1); (try clear F55_2); (try clear F58_0); (try clear F58_1); (try clear F58_2); (try clear F59_0); (try clear F59_1); (try clear F59_2); (try clear F67_0); (try clear F67_1); (try clear F67_2)
   (try clear O_454002); (try clear O_460002); (try clear O_466002); (try clear O_473002)
   obtain ⟨kq, x82_114, rfl, HA, HJ114, O_454002, O_460002, O_466002, O_473002, B433, B434, B453, B459, B465, B472, HB⟩ := hcut
   have hl460002_114 := (Kd.S_reads' O_460002.out).1
   rw [hl460002_114] at O_460002
   (try simp only [hl460002_114])
   (try simp only [hl460002_114] at B433)
   (try simp only [hl460002_114] at B434)
   (try simp only [hl460002_114] at B453)
   (try simp only [hl460002_114] at B459)
   (try simp only [hl460002_114] at B465)
   (try simp only [hl460002_114] at B472)
   (try simp only [hl460002_114] at O_454002)
   (try simp only [hl460002_114] at O_466002)
   (try simp only [hl460002_114] at O_473002)
   have hl466002_114 := (Kd.S_reads' O_466002.out).1
   rw [hl466002_114] at O_466002
   (try simp only [hl466002_114])
   (try simp only [hl466002_114] at B433)
   (try simp only [hl466002_114] at B434)
   (try simp only [hl466002_114] at B453)
   (try simp only [hl466002_114] at B459)
   (try simp only [hl466002_114] at B465)
   (try simp only [hl466002_114] at B472)
   (try simp only [hl466002_114] at O_454002)
   (try simp only [hl466002_114] at O_460002)
   (try simp only [hl466002_114] at O_473002)
   cases kq with | zero => cases HA.out | succ kj114 => ?_
   have H := HA.out
   clear HA
   simp only [laws_FnExactSpliceSub.j1] at H
   by_cases c156 : x82_114 = true
   ·subst c156
    try rw [if_pos rfl] at H
    cases H
   replace c156 := Xbf c156
   subst c156
   try rw [if_neg Xft] at H
   replace H := Option.bind_eq_some_iff.mp H
   obtain ⟨⟨t491, t492⟩, A1570, H⟩ := H
   try dsimp only at H
   have A157 := Am A1570
   clear A1570
   obtain ⟨t493, A158, H⟩ := Xbi H
   try dsimp only at H
   have HC159 := Am H
   clear H
   have hnb160 := NB472_433.out
   have hnc160 := NB433_472.out
   have hnb161 := NB472_434.out
   have hnc161 := NB434_472.out
   have hnb162 := NB472_453.out
   have hnc162 := NB453_472.out
   have hnb163 := NB472_459.out
   have hnc163 := NB459_472.out
   have hnb164 := NB472_465.out
   have hnc164 := NB465_472.out
   obtain ⟨Z165_0, Z165_1, Z165_2⟩ := Xc3 B472
   obtain ⟨F165_0, F165_1, F165_2⟩ := Xf3 B472
   go_upto_if 90 with (first | ((with_reducible refine gate_callee (f := 29) rfl ?_); refine Xgo 85 Try.func29 #[.agg #[.int .i64 t466, .int .i64 t467, .slice Ao68 t468.length co68], .int .i64 1] ?_; (with_reducible refine (laws_markDoc.calls kj114 t466 t467 (fun k_ => (((((((some k_ ≠ (.slice Ao34 t449.length co34 : Value).ownBlock ∧ (some k_ ≠ (.slice Ao45 t487.length co45 : Value).ownBlock ∧ (some k_ ≠ (.slice Ao56 t489.length co56 : Value).ownBlock ∧ (k_ ≠ XR.zge z13_ k_ ∧ (k_ ≠ XR.zlt z14_ k_ ∧ k_ ≠ XR.zlt z15_ k_))))) ∧ k_ ≠ gb433) ∧ k_ ≠ gb434) ∧ k_ ≠ gb453) ∧ k_ ≠ gb459) ∧ k_ ≠ gb465) ∧ k_ ≠ gb472)) (.slice Ao68 t468.length co68) t468 1 t491 t492 w _ ?s1 ?s2 A157.out).mono ?_); (case s1 => exact Xi); (case s2 => (with_reducible repeat (first | apply Kd.S_alloc | apply Kd.S_drewN | apply Kd.S_drew)); exact (Kd.S_types (Kd.S_types (Kd.S_types (Kd.S_types (Kd.S_types (Kd.S_types O_473002.out B433.out (by decide)) B434.out (by decide)) B453.out (by decide)) B459.out (by decide)) B465.out (by decide)) B472.out (by decide))); rintro e w166 ⟨rfl, hy0, hb, hkp⟩; refine ⟨_, rfl, ?_⟩; replace O_454002 := Am (Kd.N_mono (Kd.N_keptB (O_454002.out) hkp (fun k_ hk_ hs_ => XR.zno (hs_.1.1.1.1.1.1.2.2.2.1) (hk_.2.2.2.2.2.2.2.2.2.2.2.1))) (fun _ hk_ => hk_.1)); replace O_460002 := Am (Kd.S_mono (Kd.S_keptB (O_460002.out) hkp (fun k_ hk_ hs_ => XR.zno (hs_.1.1.1.1.1.1.2.2.2.1) (hk_.2.2.2.2.2.1))) (fun _ hk_ => hk_.1)); replace O_466002 := Am (Kd.S_mono (Kd.S_keptB (O_466002.out) hkp (fun k_ hk_ hs_ => XR.zno (hs_.1.1.1.1.1.1.2.2.2.1) (hk_.2.2.2.2.1))) (fun _ hk_ => hk_.1)); replace O_473002 := Am (hy0); replace B433 := Am (blk_kept B433.out hkp (fun hs_ => (hs_.1.1.1.1.1.2) rfl)); replace B434 := Am (blk_kept B434.out hkp (fun hs_ => (hs_.1.1.1.1.2) rfl)); replace B453 := Am (blk_kept B453.out hkp (fun hs_ => (hs_.1.1.1.2) rfl)); replace B459 := Am (blk_kept B459.out hkp (fun hs_ => (hs_.1.1.2) rfl)); replace B465 := Am (blk_kept B465.out hkp (fun hs_ => (hs_.1.2) rfl)); replace B472 := Am (blk_kept B472.out hkp (fun hs_ => (hs_.2) rfl)); replace HB := Am (hb); (try clear hb); (try clear hkp); (try clear hy0); obtain ⟨Z167_0, Z167_1, Z167_2⟩ := Xc3 B472; obtain ⟨F167_0, F167_1, F167_2⟩ := Xf3 B472) | ((with_reducible refine gate_callee (f := 45) rfl ?_); refine goesL_ (some 88) rfl rfl Try.func45 (by kernel_rfl) rfl #[.agg #[.int .i64 t466, .int .i64 t467, .slice Ao68 t492.length co68], .int .i64 1] rfl (by (try simp only [List.map_toArray, List.map_cons, List.map_nil]); first | done | (rw [show t492.length = t468.length from (Kd.S_reads' O_473002.out).1.symm] <;> rfl) | rfl | (simp only [List.length_drop, List.length_take]; rfl)) ?_; (with_reducible refine (laws_heldDoc.calls kj114 t466 t467 _ _ t492 1 t493 _ ?s1 ?s2 A158.out).mono ?_); (case s1 => exact Xcd (Kd.S_reads' O_473002.out).2.2); (case s2 => rw [show t492.length = t468.length from (Kd.S_reads' O_473002.out).1.symm]; exact (Kd.S_reads' O_473002.out).2.1); rintro e w168 ⟨rfl, hb⟩; refine ⟨_, rfl, ?_⟩; replace O_454002 := Am (Kd.N_below (Xq O_454002) hb); replace O_460002 := Am (Kd.S_below (Xq O_460002) hb); replace O_466002 := Am (Kd.S_below (Xq O_466002) hb); replace O_473002 := Am (Kd.S_below (Xq O_473002) hb); replace B433 := Xbb B433 hb; replace B434 := Xbb B434 hb; replace B453 := Xbb B453 hb; replace B459 := Xbb B459 hb; replace B465 := Xbb B465 hb; replace B472 := Xbb B472 hb; replace HB := Xhb hb; clear hb))
   have H := HC159.out
   clear HC159
   obtain ⟨c169b0, H⟩ | ⟨c169b0, H⟩ := Xit H
   ·(first | rw [c169b0] | (simp only [i64_w, i32_w]; rw [c169b0]) | skip)
    cases H
   (first | rw [c169b0] | (simp only [i64_w, i32_w]; rw [c169b0]) | skip)
   obtain ⟨c170, H⟩ | ⟨c170, H⟩ := Xiu H
   ·have c170b0 : (t493 == t491) = true := beq_iff_eq.mpr c170
    have c170b1 : (t493 != t491) = false := bne_eq_false_iff_eq.mpr c170
    clear c170
    replace H := Option.bind_eq_some_iff.mp H
    obtain ⟨⟨t494, t495, t496⟩, A1710, H⟩ := H
    try dsimp only at H
    have A171 := Am A1710
    clear A1710
    replace H := Option.bind_eq_some_iff.mp H
    obtain ⟨⟨t499, t500, t501⟩, A1720, H⟩ := H
    try dsimp only at H
    have A172 := Am A1720
    clear A1720
    replace H := Option.bind_eq_some_iff.mp H
    obtain ⟨⟨t504, t505, t506, t509⟩, A1730, H⟩ := H
    try dsimp only at H
    have A173 := Am A1730
    clear A1730
    have HC174 := Am H
    clear H
    try go_wp2
    replace O_454002 := Am (Kd.N_drew O_454002.out)
    replace O_460002 := Am (Kd.S_drew O_460002.out)
    replace O_466002 := Am (Kd.S_drew O_466002.out)
    replace O_473002 := Am (Kd.S_drew O_473002.out)
    replace B433 := Xbd B433
    replace B434 := Xbd B434
    replace B453 := Xbd B453
    replace B459 := Xbd B459
    replace B465 := Xbd B465
    replace B472 := Xbd B472
    replace HB := Xhd HB
    refine Sx 11 (fun w' => w'.cell? ⟨gb433, 0, none⟩ = some (.int .i64 a0_0) ∧ w'.cell? ⟨gb433, 1, none⟩ = some (.int .i64 a0_1) ∧ w'.cell? ⟨gb433, 2, none⟩ = some (.slice A0_2 l0_2.length c0_2) ∧ w'.cell? ⟨gb434, 0, none⟩ = some (.int .i64 a1_0) ∧ w'.cell? ⟨gb434, 1, none⟩ = some (.int .i64 a1_1) ∧ w'.cell? ⟨gb434, 2, none⟩ = some (.slice A1_2 l1_2.length c1_2)) ⟨Xk B433 0, Xk B433 1, Xk B433 2, Xk B434 0, Xk B434 1, Xk B434 2⟩ (fun hHeld => ?_); refine with_tabW laws_FnExactSpliceSub.tab31 laws_FnExactSpliceSub.bits31 (fun HT_ HW_ => ?_)
    generalize w168.drew = w175 at O_454002 O_460002 O_466002 O_473002 B433 B434 B453 B459 B465 B472 HB hHeld ⊢
    refine Ta 0 95 11 1 ?_
    refine Ta 2 97 11 5 ?_
    refine join_ (σ := Value × Value × Value × Nat × Nat × Nat × Nat) 2 #[true, true, true, true, true, true, true, true, true, false, false] (fun s_ => [(96, .agg #[.int .i64 t494, .int .i64 t495, s_.1]), (98, .agg #[.int .i64 t499, .int .i64 t500, s_.2.1]), (99, .tuple #[.agg #[.int .i64 t504, .int .i64 t505, s_.2.2.1], .int .i64 t509]), (15, .pointer (some ⟨s_.2.2.2.1, 0, none⟩)), (94, .tuple #[.agg #[.int .i64 t504, .int .i64 t505, s_.2.2.1], .int .i64 t509]), (100, .agg #[.int .i64 t504, .int .i64 t505, s_.2.2.1]), (101, .int .i64 t509)]) (fun s_ w' => (w'.cell? ⟨gb433, 0, none⟩ = some (.int .i64 a0_0) ∧ w'.cell? ⟨gb433, 1, none⟩ = some (.int .i64 a0_1) ∧ w'.cell? ⟨gb433, 2, none⟩ = some (.slice A0_2 l0_2.length c0_2) ∧ w'.cell? ⟨gb434, 0, none⟩ = some (.int .i64 a1_0) ∧ w'.cell? ⟨gb434, 1, none⟩ = some (.int .i64 a1_1) ∧ w'.cell? ⟨gb434, 2, none⟩ = some (.slice A1_2 l1_2.length c1_2)) ∧ (Kd.S k43 43 w' w.heap.size (fun k_ => some k_ ≠ (s_.2.1 : Value).ownBlock ∧ some k_ ≠ (s_.2.2.1 : Value).ownBlock ∧ some k_ ≠ (.slice Ao34 t449.length co34 : Value).ownBlock ∧ some k_ ≠ (.slice Ao45 t487.length co45 : Value).ownBlock ∧ some k_ ≠ (.slice Ao56 t489.length co56 : Value).ownBlock ∧ some k_ ≠ (.slice Ao68 t468.length co68 : Value).ownBlock ∧ k_ ≠ XR.zge s_.2.2.2.2.1 k_ ∧ k_ ≠ XR.zlt s_.2.2.2.2.2.1 k_ ∧ k_ ≠ XR.zlt s_.2.2.2.2.2.2 k_) s_.1 t496) ∧ (Kd.S k43 43 w' w.heap.size (fun k_ => some k_ ≠ (s_.1 : Value).ownBlock ∧ some k_ ≠ (s_.2.2.1 : Value).ownBlock ∧ some k_ ≠ (.slice Ao34 t449.length co34 : Value).ownBlock ∧ some k_ ≠ (.slice Ao45 t487.length co45 : Value).ownBlock ∧ some k_ ≠ (.slice Ao56 t489.length co56 : Value).ownBlock ∧ some k_ ≠ (.slice Ao68 t468.length co68 : Value).ownBlock ∧ k_ ≠ XR.zge s_.2.2.2.2.2.1 k_ ∧ k_ ≠ XR.zlt s_.2.2.2.2.2.2 k_) s_.2.1 t501) ∧ (Kd.S k43 43 w' w.heap.size (fun k_ => some k_ ≠ (s_.1 : Value).ownBlock ∧ some k_ ≠ (s_.2.1 : Value).ownBlock ∧ some k_ ≠ (.slice Ao34 t449.length co34 : Value).ownBlock ∧ some k_ ≠ (.slice Ao45 t487.length co45 : Value).ownBlock ∧ some k_ ≠ (.slice Ao56 t489.length co56 : Value).ownBlock ∧ some k_ ≠ (.slice Ao68 t468.length co68 : Value).ownBlock ∧ k_ ≠ XR.zge s_.2.2.2.2.2.2 k_) s_.2.2.1 t506) ∧ (Kd.N k43 43 w' w.heap.size (fun k_ => some k_ ≠ (s_.1 : Value).ownBlock ∧ some k_ ≠ (s_.2.1 : Value).ownBlock ∧ some k_ ≠ (s_.2.2.1 : Value).ownBlock ∧ some k_ ≠ (.slice Ao45 t487.length co45 : Value).ownBlock ∧ some k_ ≠ (.slice Ao56 t489.length co56 : Value).ownBlock ∧ some k_ ≠ (.slice Ao68 t468.length co68 : Value).ownBlock ∧ k_ ≠ gb433 ∧ k_ ≠ gb434 ∧ k_ ≠ gb453 ∧ k_ ≠ gb459 ∧ k_ ≠ gb465 ∧ k_ ≠ gb472 ∧ k_ ≠ s_.2.2.2.1 ∧ k_ ≠ XR.zlt z11_ k_ ∧ k_ ≠ XR.zlt z12_ k_ ∧ k_ ≠ XR.zlt z13_ k_ ∧ k_ ≠ XR.zlt z14_ k_ ∧ k_ ≠ XR.zlt z15_ k_ ∧ k_ ≠ XR.zlt s_.2.2.2.2.1 k_ ∧ k_ ≠ XR.zlt s_.2.2.2.2.2.1 k_ ∧ k_ ≠ XR.zlt s_.2.2.2.2.2.2 k_) (.slice Ao34 t449.length co34) t449) ∧ (Kd.S k43 43 w' w.heap.size (fun k_ => some k_ ≠ (s_.1 : Value).ownBlock ∧ some k_ ≠ (s_.2.1 : Value).ownBlock ∧ some k_ ≠ (s_.2.2.1 : Value).ownBlock ∧ some k_ ≠ (.slice Ao34 t449.length co34 : Value).ownBlock ∧ some k_ ≠ (.slice Ao56 t489.length co56 : Value).ownBlock ∧ some k_ ≠ (.slice Ao68 t468.length co68 : Value).ownBlock ∧ k_ ≠ XR.zge z11_ k_ ∧ k_ ≠ XR.zlt z12_ k_ ∧ k_ ≠ XR.zlt z13_ k_ ∧ k_ ≠ XR.zlt z14_ k_ ∧ k_ ≠ XR.zlt z15_ k_ ∧ k_ ≠ XR.zlt s_.2.2.2.2.1 k_ ∧ k_ ≠ XR.zlt s_.2.2.2.2.2.1 k_ ∧ k_ ≠ XR.zlt s_.2.2.2.2.2.2 k_) (.slice Ao45 t487.length co45) t487) ∧ (Kd.S k43 43 w' w.heap.size (fun k_ => some k_ ≠ (s_.1 : Value).ownBlock ∧ some k_ ≠ (s_.2.1 : Value).ownBlock ∧ some k_ ≠ (s_.2.2.1 : Value).ownBlock ∧ some k_ ≠ (.slice Ao34 t449.length co34 : Value).ownBlock ∧ some k_ ≠ (.slice Ao45 t487.length co45 : Value).ownBlock ∧ some k_ ≠ (.slice Ao68 t468.length co68 : Value).ownBlock ∧ k_ ≠ XR.zge z12_ k_ ∧ k_ ≠ XR.zlt z13_ k_ ∧ k_ ≠ XR.zlt z14_ k_ ∧ k_ ≠ XR.zlt z15_ k_ ∧ k_ ≠ XR.zlt s_.2.2.2.2.1 k_ ∧ k_ ≠ XR.zlt s_.2.2.2.2.2.1 k_ ∧ k_ ≠ XR.zlt s_.2.2.2.2.2.2 k_) (.slice Ao56 t489.length co56) t489) ∧ (Kd.S k43 43 w' w.heap.size (fun k_ => some k_ ≠ (s_.1 : Value).ownBlock ∧ some k_ ≠ (s_.2.1 : Value).ownBlock ∧ some k_ ≠ (s_.2.2.1 : Value).ownBlock ∧ some k_ ≠ (.slice Ao34 t449.length co34 : Value).ownBlock ∧ some k_ ≠ (.slice Ao45 t487.length co45 : Value).ownBlock ∧ some k_ ≠ (.slice Ao56 t489.length co56 : Value).ownBlock ∧ k_ ≠ gb433 ∧ k_ ≠ gb434 ∧ k_ ≠ gb453 ∧ k_ ≠ gb459 ∧ k_ ≠ gb465 ∧ k_ ≠ gb472 ∧ k_ ≠ XR.zge z13_ k_ ∧ k_ ≠ XR.zlt z14_ k_ ∧ k_ ≠ XR.zlt z15_ k_ ∧ k_ ≠ XR.zlt s_.2.2.2.2.1 k_ ∧ k_ ≠ XR.zlt s_.2.2.2.2.2.1 k_ ∧ k_ ≠ XR.zlt s_.2.2.2.2.2.2 k_) (.slice Ao68 t468.length co68) t492) ∧ (w'.heap[gb433]? = some (.cells #[.int .i64 a0_0, .int .i64 a0_1, .slice A0_2 l0_2.length c0_2] 24 (0, 0))) ∧ (w'.heap[gb434]? = some (.cells #[.int .i64 a1_0, .int .i64 a1_1, .slice A1_2 l1_2.length c1_2] 24 (0, 0))) ∧ (w'.heap[gb453]? = some (.cells #[.int .i64 t447, .int .i64 t448, .slice Ao34 t449.length co34] 29 (0, 0))) ∧ (w'.heap[gb459]? = some (.cells #[.int .i64 t454, .int .i64 t455, .slice Ao45 t487.length co45] 29 (0, 0))) ∧ (w'.heap[gb465]? = some (.cells #[.int .i64 t460, .int .i64 t461, .slice Ao56 t489.length co56] 29 (0, 0))) ∧ (w'.heap[gb472]? = some (.cells #[.int .i64 t466, .int .i64 t467, .slice Ao68 t468.length co68] 29 (0, 0))) ∧ (w'.heap[s_.2.2.2.1]? = some (.cells #[.int .i64 0, .int .i64 0, .slice none 0 0] 29 (0, 0))) ∧ (w.heap.size ≤ s_.2.2.2.1) ∧ (w.heap.size ≤ s_.2.2.2.1) ∧ (gb433 ≠ s_.2.2.2.1) ∧ (s_.2.2.2.1 ≠ gb433) ∧ (gb434 ≠ s_.2.2.2.1) ∧ (s_.2.2.2.1 ≠ gb434) ∧ (gb453 ≠ s_.2.2.2.1) ∧ (s_.2.2.2.1 ≠ gb453) ∧ (gb459 ≠ s_.2.2.2.1) ∧ (s_.2.2.2.1 ≠ gb459) ∧ (gb465 ≠ s_.2.2.2.1) ∧ (s_.2.2.2.1 ≠ gb465) ∧ (gb472 ≠ s_.2.2.2.1) ∧ (s_.2.2.2.1 ≠ gb472) ∧ (Below w.heap.size w w')) ?_ ?_
    rotate_left
    ·intro hCont
     refine two_ (i := 1) (j := 8) (Ni := some 96) (Nj := some 15) #[true, true, true, false, false, false, false, false, false, false, false] #[true, false, true, false, false, false, false, false, true, false, false] rfl rfl rfl rfl (two_of HT_.out (by kernel_rfl)) (by decide) (by decide) (fun K hK => ?_) (fun K hK => ?_)
     ·skip
      refine Gs Try.func15 #[.agg #[.int .i64 a0_0, .int .i64 a0_1, .slice A0_2 l0_2.length c0_2]] ?_
      with_reducible refine (laws_toDoc.calls kj114 a0_0 a0_1 _ _ l0_2 t494 t495 t496 _ ?s1 ?s2 A171.out).mono ?_
      (case s1 => exact Xc HR0_2)
      (case s2 => exact HC0_2.out)
      rintro e w176 ⟨v497, rfl, ho0, hb⟩
      refine ⟨_, rfl, ?_⟩
      obtain ⟨z16_, hzz16_⟩ := XR.zat ho0
      have HO498 := Am (Kd.S_lower (Kd.S_new' (Kd.S_new' (Kd.S_new' (Kd.S_new' (XR.S_newZ ho0 hzz16_) (Kd.N_lt (Xq O_454002))) (Kd.S_lt (Xq O_460002))) (Kd.S_lt (Xq O_466002))) (Kd.S_lt (Xq O_473002))) (below_size Xi))
      replace O_454002 := Am (XR.N_elderZ (Xq O_454002) (Kd.S_base ho0) hb hzz16_)
      replace O_460002 := Am (XR.S_elderZ (Xq O_460002) (Kd.S_base ho0) hb hzz16_)
      replace O_466002 := Am (XR.S_elderZ (Xq O_466002) (Kd.S_base ho0) hb hzz16_)
      replace O_473002 := Am (XR.S_elderZ (Xq O_473002) (Kd.S_base ho0) hb hzz16_)
      replace B433 := Xbb B433 hb
      replace B434 := Xbb B434 hb
      replace B453 := Xbb B453 hb
      replace B459 := Xbb B459 hb
      replace B465 := Xbb B465 hb
      replace B472 := Xbb B472 hb
      replace HB := Xhb hb
      try clear hb
      try clear hb2
      try clear hk
      try clear hi
      try clear ho0
      try clear hzz16_
      refine hK.out _ _ ⟨Xk B433 0, Xk B433 1, Xk B433 2, Xk B434 0, Xk B434 1, Xk B434 2⟩ (fun hHeld => ?_)
      clear hK K
      refine Xno ?_
      refine two_ (i := 3) (j := 8) (Ni := some 98) (Nj := some 15) #[true, true, true, true, false, false, false, false, false, false, false] #[true, true, true, false, false, false, false, false, true, false, false] rfl rfl rfl rfl (two_of HT_.out (by kernel_rfl)) (by decide) (by decide) (fun K hK => ?_) (fun K hK => ?_)
      ·skip
       refine Gs Try.func15 #[.agg #[.int .i64 a1_0, .int .i64 a1_1, .slice A1_2 l1_2.length c1_2]] ?_
       with_reducible refine (laws_toDoc.calls kj114 a1_0 a1_1 _ _ l1_2 t499 t500 t501 _ ?s1 ?s2 A172.out).mono ?_
       (case s1 => exact Xc HR1_2)
       (case s2 => exact HC1_2.out)
       rintro e w177 ⟨v502, rfl, ho0, hb⟩
       refine ⟨_, rfl, ?_⟩
       obtain ⟨z17_, hzz17_⟩ := XR.zat ho0
       have HO503 := Am (Kd.S_lower (Kd.S_new' (Kd.S_new' (Kd.S_new' (Kd.S_new' (Kd.S_new' (XR.S_newZ ho0 hzz17_) (Kd.N_lt (Xq O_454002))) (Kd.S_lt (Xq O_460002))) (Kd.S_lt (Xq O_466002))) (Kd.S_lt (Xq O_473002))) (Kd.S_lt (Xq HO498))) (below_size Xi))
       replace O_454002 := Am (XR.N_elderZ (Xq O_454002) (Kd.S_base ho0) hb hzz17_)
       replace O_460002 := Am (XR.S_elderZ (Xq O_460002) (Kd.S_base ho0) hb hzz17_)
       replace O_466002 := Am (XR.S_elderZ (Xq O_466002) (Kd.S_base ho0) hb hzz17_)
       replace O_473002 := Am (XR.S_elderZ (Xq O_473002) (Kd.S_base ho0) hb hzz17_)
       replace HO498 := Am (XR.S_elderZ (Xq HO498) (Kd.S_base ho0) hb hzz17_)
       replace B433 := Xbb B433 hb
       replace B434 := Xbb B434 hb
       replace B453 := Xbb B453 hb
       replace B459 := Xbb B459 hb
       replace B465 := Xbb B465 hb
       replace B472 := Xbb B472 hb
       replace HB := Xhb hb
       try clear hb
       try clear hb2
       try clear hk
       try clear hi
       try clear ho0
       try clear hzz17_
       obtain ⟨Ao178, co178, eo178⟩ := Kd.S_slice HO498.out
       (first | subst eo178 | (injection eo178 with f1_ f2_ f3_; have f4_ := f1_.symm; have f5_ := f3_.symm; clear f1_ f2_ f3_; subst f4_; subst f5_))
       obtain ⟨Ao179, co179, eo179⟩ := Kd.S_slice HO503.out
       (first | subst eo179 | (injection eo179 with f1_ f2_ f3_; have f4_ := f1_.symm; have f5_ := f3_.symm; clear f1_ f2_ f3_; subst f4_; subst f5_))
       refine hK.out _ _ ⟨Xk B433 0, Xk B433 1, Xk B433 2, Xk B434 0, Xk B434 1, Xk B434 2⟩ (fun hHeld => ?_)
       clear hK K
       refine Xno ?_
       refine two_ (i := 4) (j := 8) (Ni := some 99) (Nj := some 15) #[true, true, true, true, true, false, false, false, false, false, false] #[true, true, true, true, false, false, false, false, true, false, false] rfl rfl rfl rfl (two_of HT_.out (by kernel_rfl)) (by decide) (by decide) (fun K hK => ?_) (fun K hK => ?_)
       ·skip
        refine Gs Try.func49 #[.agg #[.int .i64 t494, .int .i64 t495, .slice Ao178 t496.length co178], .agg #[.int .i64 t499, .int .i64 t500, .slice Ao179 t501.length co179]] ?_
        with_reducible refine (impl_SpliceSub.calls kj114 t494 t495 _ _ t496 t499 t500 _ _ t501 t504 t505 t506 t509 _ ?s1 ?s2 ?s3 ?s4 A173.out).mono ?_
        (case s1 => exact Xcd (Kd.S_reads' HO498.out).2.2)
        (case s2 => exact (Kd.S_reads' HO498.out).2.1)
        (case s3 => exact Xcd (Kd.S_reads' HO503.out).2.2)
        (case s4 => exact (Kd.S_reads' HO503.out).2.1)
        rintro e w180 ⟨v507, rfl, ho0, hb⟩
        refine ⟨_, rfl, ?_⟩
        obtain ⟨z18_, hzz18_⟩ := XR.zat ho0
        have HO508 := Am (Kd.S_lower (Kd.S_new' (Kd.S_new' (Kd.S_new' (Kd.S_new' (Kd.S_new' (Kd.S_new' (XR.S_newZ ho0 hzz18_) (Kd.N_lt (Xq O_454002))) (Kd.S_lt (Xq O_460002))) (Kd.S_lt (Xq O_466002))) (Kd.S_lt (Xq O_473002))) (Kd.S_lt (Xq HO498))) (Kd.S_lt (Xq HO503))) (below_size Xi))
        replace O_454002 := Am (XR.N_elderZ (Xq O_454002) (Kd.S_base ho0) hb hzz18_)
        replace O_460002 := Am (XR.S_elderZ (Xq O_460002) (Kd.S_base ho0) hb hzz18_)
        replace O_466002 := Am (XR.S_elderZ (Xq O_466002) (Kd.S_base ho0) hb hzz18_)
        replace O_473002 := Am (XR.S_elderZ (Xq O_473002) (Kd.S_base ho0) hb hzz18_)
        replace HO498 := Am (XR.S_elderZ (Xq HO498) (Kd.S_base ho0) hb hzz18_)
        replace HO503 := Am (XR.S_elderZ (Xq HO503) (Kd.S_base ho0) hb hzz18_)
        replace B433 := Xbb B433 hb
        replace B434 := Xbb B434 hb
        replace B453 := Xbb B453 hb
        replace B459 := Xbb B459 hb
        replace B465 := Xbb B465 hb
        replace B472 := Xbb B472 hb
        replace HB := Xhb hb
        try clear hb
        try clear hb2
        try clear hk
        try clear hi
        try clear ho0
        try clear hzz18_
        refine hK.out _ _ ⟨Xk B433 0, Xk B433 1, Xk B433 2, Xk B434 0, Xk B434 1, Xk B434 2⟩ (fun hHeld => ?_)
        clear hK K
        refine Xno ?_
        refine Pu 5 94 11 63 ?_
        refine Pu 6 100 11 127 ?_
        refine Pu 7 101 11 255 ?_
        refine On 8 15 11 511 (fun K hK => ?_)
        refine box_step ?hg (N := 15) ?hd (cs := #[.int .i64 0, .int .i64 0, .slice none 0 0]) (t := 29) ?hr ?_; (case hd => rfl); (case hg => rfl); (case hr => first | (go_simp; done) | (go_simp; rfl))
        intro gb510 hg w181 hbox hb
        replace O_454002 := Am (Kd.N_below (Kd.N_elderB (Xq O_454002) gb510 (Nat.le_of_eq hg.symm)) hb)
        replace O_460002 := Am (Kd.S_below (Xq O_460002) hb)
        replace O_466002 := Am (Kd.S_below (Xq O_466002) hb)
        replace O_473002 := Am (Kd.S_below (Xq O_473002) hb)
        replace HO498 := Am (Kd.S_below (Xq HO498) hb)
        replace HO503 := Am (Kd.S_below (Xq HO503) hb)
        replace HO508 := Am (Kd.S_below (Xq HO508) hb)
        have B510 := Am (hbox)
        have GW510 := Am ((by rw [hg]; exact (below_size Xi) : w.heap.size ≤ gb510))
        have GE510 := Am ((by rw [hg]; exact (below_size Xi) : w.heap.size ≤ gb510))
        replace HB := Xhb hb
        have NB433_510 := Am ((by rw [hg]; exact Nat.ne_of_lt (blk_lt (g := gb433) (o := .cells #[.int .i64 a0_0, .int .i64 a0_1, .slice A0_2 l0_2.length c0_2] 24 (0, 0)) B433.out) : gb433 ≠ gb510))
        have NB510_433 := Am ((by rw [hg]; exact Nat.ne_of_gt (blk_lt (g := gb433) (o := .cells #[.int .i64 a0_0, .int .i64 a0_1, .slice A0_2 l0_2.length c0_2] 24 (0, 0)) B433.out) : gb510 ≠ gb433))
        replace B433 := Xbb B433 hb
        have NB434_510 := Am ((by rw [hg]; exact Nat.ne_of_lt (blk_lt (g := gb434) (o := .cells #[.int .i64 a1_0, .int .i64 a1_1, .slice A1_2 l1_2.length c1_2] 24 (0, 0)) B434.out) : gb434 ≠ gb510))
        have NB510_434 := Am ((by rw [hg]; exact Nat.ne_of_gt (blk_lt (g := gb434) (o := .cells #[.int .i64 a1_0, .int .i64 a1_1, .slice A1_2 l1_2.length c1_2] 24 (0, 0)) B434.out) : gb510 ≠ gb434))
        replace B434 := Xbb B434 hb
        have NB453_510 := Am ((by rw [hg]; exact Nat.ne_of_lt (blk_lt (g := gb453) (o := .cells #[.int .i64 t447, .int .i64 t448, .slice Ao34 t449.length co34] 29 (0, 0)) B453.out) : gb453 ≠ gb510))
        have NB510_453 := Am ((by rw [hg]; exact Nat.ne_of_gt (blk_lt (g := gb453) (o := .cells #[.int .i64 t447, .int .i64 t448, .slice Ao34 t449.length co34] 29 (0, 0)) B453.out) : gb510 ≠ gb453))
        replace B453 := Xbb B453 hb
        have NB459_510 := Am ((by rw [hg]; exact Nat.ne_of_lt (blk_lt (g := gb459) (o := .cells #[.int .i64 t454, .int .i64 t455, .slice Ao45 t487.length co45] 29 (0, 0)) B459.out) : gb459 ≠ gb510))
        have NB510_459 := Am ((by rw [hg]; exact Nat.ne_of_gt (blk_lt (g := gb459) (o := .cells #[.int .i64 t454, .int .i64 t455, .slice Ao45 t487.length co45] 29 (0, 0)) B459.out) : gb510 ≠ gb459))
        replace B459 := Xbb B459 hb
        have NB465_510 := Am ((by rw [hg]; exact Nat.ne_of_lt (blk_lt (g := gb465) (o := .cells #[.int .i64 t460, .int .i64 t461, .slice Ao56 t489.length co56] 29 (0, 0)) B465.out) : gb465 ≠ gb510))
        have NB510_465 := Am ((by rw [hg]; exact Nat.ne_of_gt (blk_lt (g := gb465) (o := .cells #[.int .i64 t460, .int .i64 t461, .slice Ao56 t489.length co56] 29 (0, 0)) B465.out) : gb510 ≠ gb465))
        replace B465 := Xbb B465 hb
        have NB472_510 := Am ((by rw [hg]; exact Nat.ne_of_lt (blk_lt (g := gb472) (o := .cells #[.int .i64 t466, .int .i64 t467, .slice Ao68 t468.length co68] 29 (0, 0)) B472.out) : gb472 ≠ gb510))
        have NB510_472 := Am ((by rw [hg]; exact Nat.ne_of_gt (blk_lt (g := gb472) (o := .cells #[.int .i64 t466, .int .i64 t467, .slice Ao68 t468.length co68] 29 (0, 0)) B472.out) : gb510 ≠ gb472))
        replace B472 := Xbb B472 hb
        clear hb hbox hg
        refine hK.out _ _ ⟨Xk B433 0, Xk B433 1, Xk B433 2, Xk B434 0, Xk B434 1, Xk B434 2⟩ (fun hHeld => ?_)
        clear hK K
        refine Xno ?_
        exact norm_ (by simp only [putAll, Act.put, List.setIfInBounds_toArray, List.set_cons_zero, List.set_cons_succ]) (hCont (.slice Ao178 t496.length co178, .slice Ao179 t501.length co179, v507, gb510, z16_, z17_, z18_) _ ⟨hHeld, (by (with_reducible repeat (first | apply Kd.S_alloc | apply Kd.S_drewN | apply Kd.S_drew)); exact Kd.S_mono HO498.out (fun _ hk => ⟨hk.1.1.1.2, ⟨hk.1.2, ⟨hk.1.1.1.1.1.1.1.2, ⟨hk.1.1.1.1.1.1.2, ⟨hk.1.1.1.1.1.2, ⟨hk.1.1.1.1.2, ⟨hk.1.1.1.1.1.1.1.1.2, ⟨hk.1.1.2, hk.2⟩⟩⟩⟩⟩⟩⟩⟩)), (by (with_reducible repeat (first | apply Kd.S_alloc | apply Kd.S_drewN | apply Kd.S_drew)); exact Kd.S_mono HO503.out (fun _ hk => ⟨hk.1.1.2, ⟨hk.1.2, ⟨hk.1.1.1.1.1.1.2, ⟨hk.1.1.1.1.1.2, ⟨hk.1.1.1.1.2, ⟨hk.1.1.1.2, ⟨hk.1.1.1.1.1.1.1.2, hk.2⟩⟩⟩⟩⟩⟩⟩)), (by (with_reducible repeat (first | apply Kd.S_alloc | apply Kd.S_drewN | apply Kd.S_drew)); exact Kd.S_mono HO508.out (fun _ hk => ⟨hk.1.2, ⟨hk.2, ⟨hk.1.1.1.1.1.2, ⟨hk.1.1.1.1.2, ⟨hk.1.1.1.2, ⟨hk.1.1.2, hk.1.1.1.1.1.1.2⟩⟩⟩⟩⟩⟩)), (by (with_reducible repeat (first | apply Kd.N_alloc | apply Kd.N_drewN | apply Kd.N_drew)); exact Kd.N_mono O_454002.out (fun _ hk => ⟨hk.1.1.1.1.1.1.2, ⟨hk.1.1.1.1.2, ⟨hk.1.1.2, ⟨hk.1.1.1.1.1.1.1.1, ⟨hk.1.1.1.1.1.1.1.2.1, ⟨hk.1.1.1.1.1.1.1.2.2.1, ⟨hk.1.1.1.1.1.1.1.2.2.2.1, ⟨hk.1.1.1.1.1.1.1.2.2.2.2.1, ⟨hk.1.1.1.1.1.1.1.2.2.2.2.2.1, ⟨hk.1.1.1.1.1.1.1.2.2.2.2.2.2.1, ⟨hk.1.1.1.1.1.1.1.2.2.2.2.2.2.2.1, ⟨hk.1.1.1.1.1.1.1.2.2.2.2.2.2.2.2.1, ⟨hk.2, ⟨hk.1.1.1.1.1.1.1.2.2.2.2.2.2.2.2.2.1, ⟨hk.1.1.1.1.1.1.1.2.2.2.2.2.2.2.2.2.2.1, ⟨hk.1.1.1.1.1.1.1.2.2.2.2.2.2.2.2.2.2.2.1, ⟨hk.1.1.1.1.1.1.1.2.2.2.2.2.2.2.2.2.2.2.2.1, ⟨hk.1.1.1.1.1.1.1.2.2.2.2.2.2.2.2.2.2.2.2.2, ⟨hk.1.1.1.1.1.2, ⟨hk.1.1.1.2, hk.1.2⟩⟩⟩⟩⟩⟩⟩⟩⟩⟩⟩⟩⟩⟩⟩⟩⟩⟩⟩⟩)), (by (with_reducible repeat (first | apply Kd.S_alloc | apply Kd.S_drewN | apply Kd.S_drew)); exact Kd.S_mono O_460002.out (fun _ hk => ⟨hk.1.1.1.1.1.2, ⟨hk.1.1.1.2, ⟨hk.1.2, ⟨hk.1.1.1.1.1.1.1, ⟨hk.1.1.1.1.1.1.2.1, ⟨hk.1.1.1.1.1.1.2.2.1, ⟨hk.1.1.1.1.1.1.2.2.2.1, ⟨hk.1.1.1.1.1.1.2.2.2.2.1, ⟨hk.1.1.1.1.1.1.2.2.2.2.2.1, ⟨hk.1.1.1.1.1.1.2.2.2.2.2.2.1, ⟨hk.1.1.1.1.1.1.2.2.2.2.2.2.2, ⟨hk.1.1.1.1.2, ⟨hk.1.1.2, hk.2⟩⟩⟩⟩⟩⟩⟩⟩⟩⟩⟩⟩⟩)), (by (with_reducible repeat (first | apply Kd.S_alloc | apply Kd.S_drewN | apply Kd.S_drew)); exact Kd.S_mono O_466002.out (fun _ hk => ⟨hk.1.1.1.1.1.2, ⟨hk.1.1.1.2, ⟨hk.1.2, ⟨hk.1.1.1.1.1.1.1, ⟨hk.1.1.1.1.1.1.2.1, ⟨hk.1.1.1.1.1.1.2.2.1, ⟨hk.1.1.1.1.1.1.2.2.2.1, ⟨hk.1.1.1.1.1.1.2.2.2.2.1, ⟨hk.1.1.1.1.1.1.2.2.2.2.2.1, ⟨hk.1.1.1.1.1.1.2.2.2.2.2.2, ⟨hk.1.1.1.1.2, ⟨hk.1.1.2, hk.2⟩⟩⟩⟩⟩⟩⟩⟩⟩⟩⟩⟩)), (by (with_reducible repeat (first | apply Kd.S_alloc | apply Kd.S_drewN | apply Kd.S_drew)); exact Kd.S_mono O_473002.out (fun _ hk => ⟨hk.1.1.1.1.1.2, ⟨hk.1.1.1.2, ⟨hk.1.2, ⟨hk.1.1.1.1.1.1.1.1.1.1.1.1.1, ⟨hk.1.1.1.1.1.1.1.1.1.1.1.1.2.1, ⟨hk.1.1.1.1.1.1.1.1.1.1.1.1.2.2.1, ⟨hk.1.1.1.1.1.1.1.1.1.1.1.2, ⟨hk.1.1.1.1.1.1.1.1.1.1.2, ⟨hk.1.1.1.1.1.1.1.1.1.2, ⟨hk.1.1.1.1.1.1.1.1.2, ⟨hk.1.1.1.1.1.1.1.2, ⟨hk.1.1.1.1.1.1.2, ⟨hk.1.1.1.1.1.1.1.1.1.1.1.1.2.2.2.1, ⟨hk.1.1.1.1.1.1.1.1.1.1.1.1.2.2.2.2.1, ⟨hk.1.1.1.1.1.1.1.1.1.1.1.1.2.2.2.2.2, ⟨hk.1.1.1.1.2, ⟨hk.1.1.2, hk.2⟩⟩⟩⟩⟩⟩⟩⟩⟩⟩⟩⟩⟩⟩⟩⟩⟩)), B433.out, B434.out, B453.out, B459.out, B465.out, B472.out, B510.out, GW510.out, GE510.out, NB433_510.out, NB510_433.out, NB434_510.out, NB510_434.out, NB453_510.out, NB510_453.out, NB459_510.out, NB510_459.out, NB465_510.out, NB510_465.out, NB472_510.out, NB510_472.out, Xi⟩)
       skip
       refine box_step ?hg (N := 15) ?hd (cs := #[.int .i64 0, .int .i64 0, .slice none 0 0]) (t := 29) ?hr ?_; (case hd => rfl); (case hg => rfl); (case hr => first | (go_simp; done) | (go_simp; rfl))
       intro gb510 hg w178 hbox hb
       replace O_454002 := Am (Kd.N_below (Kd.N_elderB (Xq O_454002) gb510 (Nat.le_of_eq hg.symm)) hb)
       replace O_460002 := Am (Kd.S_below (Xq O_460002) hb)
       replace O_466002 := Am (Kd.S_below (Xq O_466002) hb)
       replace O_473002 := Am (Kd.S_below (Xq O_473002) hb)
       replace HO498 := Am (Kd.S_below (Xq HO498) hb)
       replace HO503 := Am (Kd.S_below (Xq HO503) hb)
       have B510 := Am (hbox)
       have GW510 := Am ((by rw [hg]; exact (below_size Xi) : w.heap.size ≤ gb510))
       have GE510 := Am ((by rw [hg]; exact (below_size Xi) : w.heap.size ≤ gb510))
       replace HB := Xhb hb
       have NB433_510 := Am ((by rw [hg]; exact Nat.ne_of_lt (blk_lt (g := gb433) (o := .cells #[.int .i64 a0_0, .int .i64 a0_1, .slice A0_2 l0_2.length c0_2] 24 (0, 0)) B433.out) : gb433 ≠ gb510))
       have NB510_433 := Am ((by rw [hg]; exact Nat.ne_of_gt (blk_lt (g := gb433) (o := .cells #[.int .i64 a0_0, .int .i64 a0_1, .slice A0_2 l0_2.length c0_2] 24 (0, 0)) B433.out) : gb510 ≠ gb433))
       replace B433 := Xbb B433 hb
       have NB434_510 := Am ((by rw [hg]; exact Nat.ne_of_lt (blk_lt (g := gb434) (o := .cells #[.int .i64 a1_0, .int .i64 a1_1, .slice A1_2 l1_2.length c1_2] 24 (0, 0)) B434.out) : gb434 ≠ gb510))
       have NB510_434 := Am ((by rw [hg]; exact Nat.ne_of_gt (blk_lt (g := gb434) (o := .cells #[.int .i64 a1_0, .int .i64 a1_1, .slice A1_2 l1_2.length c1_2] 24 (0, 0)) B434.out) : gb510 ≠ gb434))
       replace B434 := Xbb B434 hb
       have NB453_510 := Am ((by rw [hg]; exact Nat.ne_of_lt (blk_lt (g := gb453) (o := .cells #[.int .i64 t447, .int .i64 t448, .slice Ao34 t449.length co34] 29 (0, 0)) B453.out) : gb453 ≠ gb510))
       have NB510_453 := Am ((by rw [hg]; exact Nat.ne_of_gt (blk_lt (g := gb453) (o := .cells #[.int .i64 t447, .int .i64 t448, .slice Ao34 t449.length co34] 29 (0, 0)) B453.out) : gb510 ≠ gb453))
       replace B453 := Xbb B453 hb
       have NB459_510 := Am ((by rw [hg]; exact Nat.ne_of_lt (blk_lt (g := gb459) (o := .cells #[.int .i64 t454, .int .i64 t455, .slice Ao45 t487.length co45] 29 (0, 0)) B459.out) : gb459 ≠ gb510))
       have NB510_459 := Am ((by rw [hg]; exact Nat.ne_of_gt (blk_lt (g := gb459) (o := .cells #[.int .i64 t454, .int .i64 t455, .slice Ao45 t487.length co45] 29 (0, 0)) B459.out) : gb510 ≠ gb459))
       replace B459 := Xbb B459 hb
       have NB465_510 := Am ((by rw [hg]; exact Nat.ne_of_lt (blk_lt (g := gb465) (o := .cells #[.int .i64 t460, .int .i64 t461, .slice Ao56 t489.length co56] 29 (0, 0)) B465.out) : gb465 ≠ gb510))
       have NB510_465 := Am ((by rw [hg]; exact Nat.ne_of_gt (blk_lt (g := gb465) (o := .cells #[.int .i64 t460, .int .i64 t461, .slice Ao56 t489.length co56] 29 (0, 0)) B465.out) : gb510 ≠ gb465))
       replace B465 := Xbb B465 hb
       have NB472_510 := Am ((by rw [hg]; exact Nat.ne_of_lt (blk_lt (g := gb472) (o := .cells #[.int .i64 t466, .int .i64 t467, .slice Ao68 t468.length co68] 29 (0, 0)) B472.out) : gb472 ≠ gb510))
       have NB510_472 := Am ((by rw [hg]; exact Nat.ne_of_gt (blk_lt (g := gb472) (o := .cells #[.int .i64 t466, .int .i64 t467, .slice Ao68 t468.length co68] 29 (0, 0)) B472.out) : gb510 ≠ gb472))
       replace B472 := Xbb B472 hb
       clear hb hbox hg
       obtain ⟨Ao179, co179, eo179⟩ := Kd.S_slice HO498.out
       (first | subst eo179 | (injection eo179 with f1_ f2_ f3_; have f4_ := f1_.symm; have f5_ := f3_.symm; clear f1_ f2_ f3_; subst f4_; subst f5_))
       obtain ⟨Ao180, co180, eo180⟩ := Kd.S_slice HO503.out
       (first | subst eo180 | (injection eo180 with f1_ f2_ f3_; have f4_ := f1_.symm; have f5_ := f3_.symm; clear f1_ f2_ f3_; subst f4_; subst f5_))
       refine hK.out _ _ ⟨Xk B433 0, Xk B433 1, Xk B433 2, Xk B434 0, Xk B434 1, Xk B434 2⟩ (fun hHeld => ?_)
       clear hK K
       refine Xno ?_
       refine On 4 99 11 287 (fun K hK => ?_)
       refine Gs Try.func49 #[.agg #[.int .i64 t494, .int .i64 t495, .slice Ao179 t496.length co179], .agg #[.int .i64 t499, .int .i64 t500, .slice Ao180 t501.length co180]] ?_
       with_reducible refine (impl_SpliceSub.calls kj114 t494 t495 _ _ t496 t499 t500 _ _ t501 t504 t505 t506 t509 _ ?s1 ?s2 ?s3 ?s4 A173.out).mono ?_
       (case s1 => exact Xcd (Kd.S_reads' HO498.out).2.2)
       (case s2 => exact (Kd.S_reads' HO498.out).2.1)
       (case s3 => exact Xcd (Kd.S_reads' HO503.out).2.2)
       (case s4 => exact (Kd.S_reads' HO503.out).2.1)
       rintro e w181 ⟨v507, rfl, ho0, hb⟩
       refine ⟨_, rfl, ?_⟩
       obtain ⟨z21_, hzz21_⟩ := XR.zat ho0
       have HO508 := Am (Kd.S_lower (Kd.S_new' (Kd.S_new' (Kd.S_new' (Kd.S_new' (Kd.S_new' (Kd.S_new' (XR.S_newZ ho0 hzz21_) (Kd.N_lt (Xq O_454002))) (Kd.S_lt (Xq O_460002))) (Kd.S_lt (Xq O_466002))) (Kd.S_lt (Xq O_473002))) (Kd.S_lt (Xq HO498))) (Kd.S_lt (Xq HO503))) (below_size Xi))
       replace O_454002 := Am (XR.N_elderZ (Xq O_454002) (Kd.S_base ho0) hb hzz21_)
       replace O_460002 := Am (XR.S_elderZ (Xq O_460002) (Kd.S_base ho0) hb hzz21_)
       replace O_466002 := Am (XR.S_elderZ (Xq O_466002) (Kd.S_base ho0) hb hzz21_)
       replace O_473002 := Am (XR.S_elderZ (Xq O_473002) (Kd.S_base ho0) hb hzz21_)
       replace HO498 := Am (XR.S_elderZ (Xq HO498) (Kd.S_base ho0) hb hzz21_)
       replace HO503 := Am (XR.S_elderZ (Xq HO503) (Kd.S_base ho0) hb hzz21_)
       replace B433 := Xbb B433 hb
       replace B434 := Xbb B434 hb
       replace B453 := Xbb B453 hb
       replace B459 := Xbb B459 hb
       replace B465 := Xbb B465 hb
       replace B472 := Xbb B472 hb
       replace B510 := Xbb B510 hb
       replace HB := Xhb hb
       try clear hb
       try clear hb2
       try clear hk
       try clear hi
       try clear ho0
       try clear hzz21_
       refine hK.out _ _ ⟨Xk B433 0, Xk B433 1, Xk B433 2, Xk B434 0, Xk B434 1, Xk B434 2⟩ (fun hHeld => ?_)
       clear hK K
       refine Xno ?_
       refine Pu 5 94 11 319 ?_
       refine Pu 6 100 11 383 ?_
       refine Pu 7 101 11 511 ?_
       exact norm_ (by simp only [putAll, Act.put, List.setIfInBounds_toArray, List.set_cons_zero, List.set_cons_succ]) (hCont (.slice Ao179 t496.length co179, .slice Ao180 t501.length co180, v507, gb510, z16_, z17_, z21_) _ ⟨hHeld, (by (with_reducible repeat (first | apply Kd.S_alloc | apply Kd.S_drewN | apply Kd.S_drew)); exact Kd.S_mono HO498.out (fun _ hk => ⟨hk.1.1.1.2, ⟨hk.1.2, ⟨hk.1.1.1.1.1.1.1.2, ⟨hk.1.1.1.1.1.1.2, ⟨hk.1.1.1.1.1.2, ⟨hk.1.1.1.1.2, ⟨hk.1.1.1.1.1.1.1.1.2, ⟨hk.1.1.2, hk.2⟩⟩⟩⟩⟩⟩⟩⟩)), (by (with_reducible repeat (first | apply Kd.S_alloc | apply Kd.S_drewN | apply Kd.S_drew)); exact Kd.S_mono HO503.out (fun _ hk => ⟨hk.1.1.2, ⟨hk.1.2, ⟨hk.1.1.1.1.1.1.2, ⟨hk.1.1.1.1.1.2, ⟨hk.1.1.1.1.2, ⟨hk.1.1.1.2, ⟨hk.1.1.1.1.1.1.1.2, hk.2⟩⟩⟩⟩⟩⟩⟩)), (by (with_reducible repeat (first | apply Kd.S_alloc | apply Kd.S_drewN | apply Kd.S_drew)); exact Kd.S_mono HO508.out (fun _ hk => ⟨hk.1.2, ⟨hk.2, ⟨hk.1.1.1.1.1.2, ⟨hk.1.1.1.1.2, ⟨hk.1.1.1.2, ⟨hk.1.1.2, hk.1.1.1.1.1.1.2⟩⟩⟩⟩⟩⟩)), (by (with_reducible repeat (first | apply Kd.N_alloc | apply Kd.N_drewN | apply Kd.N_drew)); exact Kd.N_mono O_454002.out (fun _ hk => ⟨hk.1.1.1.1.1.1.2, ⟨hk.1.1.1.1.2, ⟨hk.1.2, ⟨hk.1.1.1.1.1.1.1.1, ⟨hk.1.1.1.1.1.1.1.2.1, ⟨hk.1.1.1.1.1.1.1.2.2.1, ⟨hk.1.1.1.1.1.1.1.2.2.2.1, ⟨hk.1.1.1.1.1.1.1.2.2.2.2.1, ⟨hk.1.1.1.1.1.1.1.2.2.2.2.2.1, ⟨hk.1.1.1.1.1.1.1.2.2.2.2.2.2.1, ⟨hk.1.1.1.1.1.1.1.2.2.2.2.2.2.2.1, ⟨hk.1.1.1.1.1.1.1.2.2.2.2.2.2.2.2.1, ⟨hk.1.1.2, ⟨hk.1.1.1.1.1.1.1.2.2.2.2.2.2.2.2.2.1, ⟨hk.1.1.1.1.1.1.1.2.2.2.2.2.2.2.2.2.2.1, ⟨hk.1.1.1.1.1.1.1.2.2.2.2.2.2.2.2.2.2.2.1, ⟨hk.1.1.1.1.1.1.1.2.2.2.2.2.2.2.2.2.2.2.2.1, ⟨hk.1.1.1.1.1.1.1.2.2.2.2.2.2.2.2.2.2.2.2.2, ⟨hk.1.1.1.1.1.2, ⟨hk.1.1.1.2, hk.2⟩⟩⟩⟩⟩⟩⟩⟩⟩⟩⟩⟩⟩⟩⟩⟩⟩⟩⟩⟩)), (by (with_reducible repeat (first | apply Kd.S_alloc | apply Kd.S_drewN | apply Kd.S_drew)); exact Kd.S_mono O_460002.out (fun _ hk => ⟨hk.1.1.1.1.1.2, ⟨hk.1.1.1.2, ⟨hk.1.2, ⟨hk.1.1.1.1.1.1.1, ⟨hk.1.1.1.1.1.1.2.1, ⟨hk.1.1.1.1.1.1.2.2.1, ⟨hk.1.1.1.1.1.1.2.2.2.1, ⟨hk.1.1.1.1.1.1.2.2.2.2.1, ⟨hk.1.1.1.1.1.1.2.2.2.2.2.1, ⟨hk.1.1.1.1.1.1.2.2.2.2.2.2.1, ⟨hk.1.1.1.1.1.1.2.2.2.2.2.2.2, ⟨hk.1.1.1.1.2, ⟨hk.1.1.2, hk.2⟩⟩⟩⟩⟩⟩⟩⟩⟩⟩⟩⟩⟩)), (by (with_reducible repeat (first | apply Kd.S_alloc | apply Kd.S_drewN | apply Kd.S_drew)); exact Kd.S_mono O_466002.out (fun _ hk => ⟨hk.1.1.1.1.1.2, ⟨hk.1.1.1.2, ⟨hk.1.2, ⟨hk.1.1.1.1.1.1.1, ⟨hk.1.1.1.1.1.1.2.1, ⟨hk.1.1.1.1.1.1.2.2.1, ⟨hk.1.1.1.1.1.1.2.2.2.1, ⟨hk.1.1.1.1.1.1.2.2.2.2.1, ⟨hk.1.1.1.1.1.1.2.2.2.2.2.1, ⟨hk.1.1.1.1.1.1.2.2.2.2.2.2, ⟨hk.1.1.1.1.2, ⟨hk.1.1.2, hk.2⟩⟩⟩⟩⟩⟩⟩⟩⟩⟩⟩⟩)), (by (with_reducible repeat (first | apply Kd.S_alloc | apply Kd.S_drewN | apply Kd.S_drew)); exact Kd.S_mono O_473002.out (fun _ hk => ⟨hk.1.1.1.1.1.2, ⟨hk.1.1.1.2, ⟨hk.1.2, ⟨hk.1.1.1.1.1.1.1.1.1.1.1.1.1, ⟨hk.1.1.1.1.1.1.1.1.1.1.1.1.2.1, ⟨hk.1.1.1.1.1.1.1.1.1.1.1.1.2.2.1, ⟨hk.1.1.1.1.1.1.1.1.1.1.1.2, ⟨hk.1.1.1.1.1.1.1.1.1.1.2, ⟨hk.1.1.1.1.1.1.1.1.1.2, ⟨hk.1.1.1.1.1.1.1.1.2, ⟨hk.1.1.1.1.1.1.1.2, ⟨hk.1.1.1.1.1.1.2, ⟨hk.1.1.1.1.1.1.1.1.1.1.1.1.2.2.2.1, ⟨hk.1.1.1.1.1.1.1.1.1.1.1.1.2.2.2.2.1, ⟨hk.1.1.1.1.1.1.1.1.1.1.1.1.2.2.2.2.2, ⟨hk.1.1.1.1.2, ⟨hk.1.1.2, hk.2⟩⟩⟩⟩⟩⟩⟩⟩⟩⟩⟩⟩⟩⟩⟩⟩⟩)), B433.out, B434.out, B453.out, B459.out, B465.out, B472.out, B510.out, GW510.out, GE510.out, NB433_510.out, NB510_433.out, NB434_510.out, NB510_434.out, NB453_510.out, NB510_453.out, NB459_510.out, NB510_459.out, NB465_510.out, NB510_465.out, NB472_510.out, NB510_472.out, Xi⟩)
      skip
      refine box_step ?hg (N := 15) ?hd (cs := #[.int .i64 0, .int .i64 0, .slice none 0 0]) (t := 29) ?hr ?_; (case hd => rfl); (case hg => rfl); (case hr => first | (go_simp; done) | (go_simp; rfl))
      intro gb510 hg w177 hbox hb
      replace O_454002 := Am (Kd.N_below (Kd.N_elderB (Xq O_454002) gb510 (Nat.le_of_eq hg.symm)) hb)
      replace O_460002 := Am (Kd.S_below (Xq O_460002) hb)
      replace O_466002 := Am (Kd.S_below (Xq O_466002) hb)
      replace O_473002 := Am (Kd.S_below (Xq O_473002) hb)
      replace HO498 := Am (Kd.S_below (Xq HO498) hb)
      have B510 := Am (hbox)
      have GW510 := Am ((by rw [hg]; exact (below_size Xi) : w.heap.size ≤ gb510))
      have GE510 := Am ((by rw [hg]; exact (below_size Xi) : w.heap.size ≤ gb510))
      replace HB := Xhb hb
      have NB433_510 := Am ((by rw [hg]; exact Nat.ne_of_lt (blk_lt (g := gb433) (o := .cells #[.int .i64 a0_0, .int .i64 a0_1, .slice A0_2 l0_2.length c0_2] 24 (0, 0)) B433.out) : gb433 ≠ gb510))
      have NB510_433 := Am ((by rw [hg]; exact Nat.ne_of_gt (blk_lt (g := gb433) (o := .cells #[.int .i64 a0_0, .int .i64 a0_1, .slice A0_2 l0_2.length c0_2] 24 (0, 0)) B433.out) : gb510 ≠ gb433))
      replace B433 := Xbb B433 hb
      have NB434_510 := Am ((by rw [hg]; exact Nat.ne_of_lt (blk_lt (g := gb434) (o := .cells #[.int .i64 a1_0, .int .i64 a1_1, .slice A1_2 l1_2.length c1_2] 24 (0, 0)) B434.out) : gb434 ≠ gb510))
      have NB510_434 := Am ((by rw [hg]; exact Nat.ne_of_gt (blk_lt (g := gb434) (o := .cells #[.int .i64 a1_0, .int .i64 a1_1, .slice A1_2 l1_2.length c1_2] 24 (0, 0)) B434.out) : gb510 ≠ gb434))
      replace B434 := Xbb B434 hb
      have NB453_510 := Am ((by rw [hg]; exact Nat.ne_of_lt (blk_lt (g := gb453) (o := .cells #[.int .i64 t447, .int .i64 t448, .slice Ao34 t449.length co34] 29 (0, 0)) B453.out) : gb453 ≠ gb510))
      have NB510_453 := Am ((by rw [hg]; exact Nat.ne_of_gt (blk_lt (g := gb453) (o := .cells #[.int .i64 t447, .int .i64 t448, .slice Ao34 t449.length co34] 29 (0, 0)) B453.out) : gb510 ≠ gb453))
      replace B453 := Xbb B453 hb
      have NB459_510 := Am ((by rw [hg]; exact Nat.ne_of_lt (blk_lt (g := gb459) (o := .cells #[.int .i64 t454, .int .i64 t455, .slice Ao45 t487.length co45] 29 (0, 0)) B459.out) : gb459 ≠ gb510))
      have NB510_459 := Am ((by rw [hg]; exact Nat.ne_of_gt (blk_lt (g := gb459) (o := .cells #[.int .i64 t454, .int .i64 t455, .slice Ao45 t487.length co45] 29 (0, 0)) B459.out) : gb510 ≠ gb459))
      replace B459 := Xbb B459 hb
      have NB465_510 := Am ((by rw [hg]; exact Nat.ne_of_lt (blk_lt (g := gb465) (o := .cells #[.int .i64 t460, .int .i64 t461, .slice Ao56 t489.length co56] 29 (0, 0)) B465.out) : gb465 ≠ gb510))
      have NB510_465 := Am ((by rw [hg]; exact Nat.ne_of_gt (blk_lt (g := gb465) (o := .cells #[.int .i64 t460, .int .i64 t461, .slice Ao56 t489.length co56] 29 (0, 0)) B465.out) : gb510 ≠ gb465))
      replace B465 := Xbb B465 hb
      have NB472_510 := Am ((by rw [hg]; exact Nat.ne_of_lt (blk_lt (g := gb472) (o := .cells #[.int .i64 t466, .int .i64 t467, .slice Ao68 t468.length co68] 29 (0, 0)) B472.out) : gb472 ≠ gb510))
      have NB510_472 := Am ((by rw [hg]; exact Nat.ne_of_gt (blk_lt (g := gb472) (o := .cells #[.int .i64 t466, .int .i64 t467, .slice Ao68 t468.length co68] 29 (0, 0)) B472.out) : gb510 ≠ gb472))
      replace B472 := Xbb B472 hb
      clear hb hbox hg
      refine hK.out _ _ ⟨Xk B433 0, Xk B433 1, Xk B433 2, Xk B434 0, Xk B434 1, Xk B434 2⟩ (fun hHeld => ?_)
      clear hK K
      refine Xno ?_
      refine On 3 98 11 271 (fun K hK => ?_)
      refine Gs Try.func15 #[.agg #[.int .i64 a1_0, .int .i64 a1_1, .slice A1_2 l1_2.length c1_2]] ?_
      with_reducible refine (laws_toDoc.calls kj114 a1_0 a1_1 _ _ l1_2 t499 t500 t501 _ ?s1 ?s2 A172.out).mono ?_
      (case s1 => exact Xc HR1_2)
      (case s2 => exact HC1_2.out)
      rintro e w178 ⟨v502, rfl, ho0, hb⟩
      refine ⟨_, rfl, ?_⟩
      obtain ⟨z23_, hzz23_⟩ := XR.zat ho0
      have HO503 := Am (Kd.S_lower (Kd.S_new' (Kd.S_new' (Kd.S_new' (Kd.S_new' (Kd.S_new' (XR.S_newZ ho0 hzz23_) (Kd.N_lt (Xq O_454002))) (Kd.S_lt (Xq O_460002))) (Kd.S_lt (Xq O_466002))) (Kd.S_lt (Xq O_473002))) (Kd.S_lt (Xq HO498))) (below_size Xi))
      replace O_454002 := Am (XR.N_elderZ (Xq O_454002) (Kd.S_base ho0) hb hzz23_)
      replace O_460002 := Am (XR.S_elderZ (Xq O_460002) (Kd.S_base ho0) hb hzz23_)
      replace O_466002 := Am (XR.S_elderZ (Xq O_466002) (Kd.S_base ho0) hb hzz23_)
      replace O_473002 := Am (XR.S_elderZ (Xq O_473002) (Kd.S_base ho0) hb hzz23_)
      replace HO498 := Am (XR.S_elderZ (Xq HO498) (Kd.S_base ho0) hb hzz23_)
      replace B433 := Xbb B433 hb
      replace B434 := Xbb B434 hb
      replace B453 := Xbb B453 hb
      replace B459 := Xbb B459 hb
      replace B465 := Xbb B465 hb
      replace B472 := Xbb B472 hb
      replace B510 := Xbb B510 hb
      replace HB := Xhb hb
      try clear hb
      try clear hb2
      try clear hk
      try clear hi
      try clear ho0
      try clear hzz23_
      obtain ⟨Ao179, co179, eo179⟩ := Kd.S_slice HO498.out
      (first | subst eo179 | (injection eo179 with f1_ f2_ f3_; have f4_ := f1_.symm; have f5_ := f3_.symm; clear f1_ f2_ f3_; subst f4_; subst f5_))
      obtain ⟨Ao180, co180, eo180⟩ := Kd.S_slice HO503.out
      (first | subst eo180 | (injection eo180 with f1_ f2_ f3_; have f4_ := f1_.symm; have f5_ := f3_.symm; clear f1_ f2_ f3_; subst f4_; subst f5_))
      refine hK.out _ _ ⟨Xk B433 0, Xk B433 1, Xk B433 2, Xk B434 0, Xk B434 1, Xk B434 2⟩ (fun hHeld => ?_)
      clear hK K
      refine Xno ?_
      refine On 4 99 11 287 (fun K hK => ?_)
      refine Gs Try.func49 #[.agg #[.int .i64 t494, .int .i64 t495, .slice Ao179 t496.length co179], .agg #[.int .i64 t499, .int .i64 t500, .slice Ao180 t501.length co180]] ?_
      with_reducible refine (impl_SpliceSub.calls kj114 t494 t495 _ _ t496 t499 t500 _ _ t501 t504 t505 t506 t509 _ ?s1 ?s2 ?s3 ?s4 A173.out).mono ?_
      (case s1 => exact Xcd (Kd.S_reads' HO498.out).2.2)
      (case s2 => exact (Kd.S_reads' HO498.out).2.1)
      (case s3 => exact Xcd (Kd.S_reads' HO503.out).2.2)
      (case s4 => exact (Kd.S_reads' HO503.out).2.1)
      rintro e w181 ⟨v507, rfl, ho0, hb⟩
      refine ⟨_, rfl, ?_⟩
      obtain ⟨z24_, hzz24_⟩ := XR.zat ho0
      have HO508 := Am (Kd.S_lower (Kd.S_new' (Kd.S_new' (Kd.S_new' (Kd.S_new' (Kd.S_new' (Kd.S_new' (XR.S_newZ ho0 hzz24_) (Kd.N_lt (Xq O_454002))) (Kd.S_lt (Xq O_460002))) (Kd.S_lt (Xq O_466002))) (Kd.S_lt (Xq O_473002))) (Kd.S_lt (Xq HO498))) (Kd.S_lt (Xq HO503))) (below_size Xi))
      replace O_454002 := Am (XR.N_elderZ (Xq O_454002) (Kd.S_base ho0) hb hzz24_)
      replace O_460002 := Am (XR.S_elderZ (Xq O_460002) (Kd.S_base ho0) hb hzz24_)
      replace O_466002 := Am (XR.S_elderZ (Xq O_466002) (Kd.S_base ho0) hb hzz24_)
      replace O_473002 := Am (XR.S_elderZ (Xq O_473002) (Kd.S_base ho0) hb hzz24_)
      replace HO498 := Am (XR.S_elderZ (Xq HO498) (Kd.S_base ho0) hb hzz24_)
      replace HO503 := Am (XR.S_elderZ (Xq HO503) (Kd.S_base ho0) hb hzz24_)
      replace B433 := Xbb B433 hb
      replace B434 := Xbb B434 hb
      replace B453 := Xbb B453 hb
      replace B459 := Xbb B459 hb
      replace B465 := Xbb B465 hb
      replace B472 := Xbb B472 hb
      replace B510 := Xbb B510 hb
      replace HB := Xhb hb
      try clear hb
      try clear hb2
      try clear hk
      try clear hi
      try clear ho0
      try clear hzz24_
      refine hK.out _ _ ⟨Xk B433 0, Xk B433 1, Xk B433 2, Xk B434 0, Xk B434 1, Xk B434 2⟩ (fun hHeld => ?_)
      clear hK K
      refine Xno ?_
      refine Pu 5 94 11 319 ?_
      refine Pu 6 100 11 383 ?_
      refine Pu 7 101 11 511 ?_
      exact norm_ (by simp only [putAll, Act.put, List.setIfInBounds_toArray, List.set_cons_zero, List.set_cons_succ]) (hCont (.slice Ao179 t496.length co179, .slice Ao180 t501.length co180, v507, gb510, z16_, z23_, z24_) _ ⟨hHeld, (by (with_reducible repeat (first | apply Kd.S_alloc | apply Kd.S_drewN | apply Kd.S_drew)); exact Kd.S_mono HO498.out (fun _ hk => ⟨hk.1.1.1.2, ⟨hk.1.2, ⟨hk.1.1.1.1.1.1.1.2, ⟨hk.1.1.1.1.1.1.2, ⟨hk.1.1.1.1.1.2, ⟨hk.1.1.1.1.2, ⟨hk.1.1.1.1.1.1.1.1.2, ⟨hk.1.1.2, hk.2⟩⟩⟩⟩⟩⟩⟩⟩)), (by (with_reducible repeat (first | apply Kd.S_alloc | apply Kd.S_drewN | apply Kd.S_drew)); exact Kd.S_mono HO503.out (fun _ hk => ⟨hk.1.1.2, ⟨hk.1.2, ⟨hk.1.1.1.1.1.1.2, ⟨hk.1.1.1.1.1.2, ⟨hk.1.1.1.1.2, ⟨hk.1.1.1.2, ⟨hk.1.1.1.1.1.1.1.2, hk.2⟩⟩⟩⟩⟩⟩⟩)), (by (with_reducible repeat (first | apply Kd.S_alloc | apply Kd.S_drewN | apply Kd.S_drew)); exact Kd.S_mono HO508.out (fun _ hk => ⟨hk.1.2, ⟨hk.2, ⟨hk.1.1.1.1.1.2, ⟨hk.1.1.1.1.2, ⟨hk.1.1.1.2, ⟨hk.1.1.2, hk.1.1.1.1.1.1.2⟩⟩⟩⟩⟩⟩)), (by (with_reducible repeat (first | apply Kd.N_alloc | apply Kd.N_drewN | apply Kd.N_drew)); exact Kd.N_mono O_454002.out (fun _ hk => ⟨hk.1.1.1.1.1.1.2, ⟨hk.1.1.1.2, ⟨hk.1.2, ⟨hk.1.1.1.1.1.1.1.1, ⟨hk.1.1.1.1.1.1.1.2.1, ⟨hk.1.1.1.1.1.1.1.2.2.1, ⟨hk.1.1.1.1.1.1.1.2.2.2.1, ⟨hk.1.1.1.1.1.1.1.2.2.2.2.1, ⟨hk.1.1.1.1.1.1.1.2.2.2.2.2.1, ⟨hk.1.1.1.1.1.1.1.2.2.2.2.2.2.1, ⟨hk.1.1.1.1.1.1.1.2.2.2.2.2.2.2.1, ⟨hk.1.1.1.1.1.1.1.2.2.2.2.2.2.2.2.1, ⟨hk.1.1.1.1.2, ⟨hk.1.1.1.1.1.1.1.2.2.2.2.2.2.2.2.2.1, ⟨hk.1.1.1.1.1.1.1.2.2.2.2.2.2.2.2.2.2.1, ⟨hk.1.1.1.1.1.1.1.2.2.2.2.2.2.2.2.2.2.2.1, ⟨hk.1.1.1.1.1.1.1.2.2.2.2.2.2.2.2.2.2.2.2.1, ⟨hk.1.1.1.1.1.1.1.2.2.2.2.2.2.2.2.2.2.2.2.2, ⟨hk.1.1.1.1.1.2, ⟨hk.1.1.2, hk.2⟩⟩⟩⟩⟩⟩⟩⟩⟩⟩⟩⟩⟩⟩⟩⟩⟩⟩⟩⟩)), (by (with_reducible repeat (first | apply Kd.S_alloc | apply Kd.S_drewN | apply Kd.S_drew)); exact Kd.S_mono O_460002.out (fun _ hk => ⟨hk.1.1.1.1.1.2, ⟨hk.1.1.1.2, ⟨hk.1.2, ⟨hk.1.1.1.1.1.1.1, ⟨hk.1.1.1.1.1.1.2.1, ⟨hk.1.1.1.1.1.1.2.2.1, ⟨hk.1.1.1.1.1.1.2.2.2.1, ⟨hk.1.1.1.1.1.1.2.2.2.2.1, ⟨hk.1.1.1.1.1.1.2.2.2.2.2.1, ⟨hk.1.1.1.1.1.1.2.2.2.2.2.2.1, ⟨hk.1.1.1.1.1.1.2.2.2.2.2.2.2, ⟨hk.1.1.1.1.2, ⟨hk.1.1.2, hk.2⟩⟩⟩⟩⟩⟩⟩⟩⟩⟩⟩⟩⟩)), (by (with_reducible repeat (first | apply Kd.S_alloc | apply Kd.S_drewN | apply Kd.S_drew)); exact Kd.S_mono O_466002.out (fun _ hk => ⟨hk.1.1.1.1.1.2, ⟨hk.1.1.1.2, ⟨hk.1.2, ⟨hk.1.1.1.1.1.1.1, ⟨hk.1.1.1.1.1.1.2.1, ⟨hk.1.1.1.1.1.1.2.2.1, ⟨hk.1.1.1.1.1.1.2.2.2.1, ⟨hk.1.1.1.1.1.1.2.2.2.2.1, ⟨hk.1.1.1.1.1.1.2.2.2.2.2.1, ⟨hk.1.1.1.1.1.1.2.2.2.2.2.2, ⟨hk.1.1.1.1.2, ⟨hk.1.1.2, hk.2⟩⟩⟩⟩⟩⟩⟩⟩⟩⟩⟩⟩)), (by (with_reducible repeat (first | apply Kd.S_alloc | apply Kd.S_drewN | apply Kd.S_drew)); exact Kd.S_mono O_473002.out (fun _ hk => ⟨hk.1.1.1.1.1.2, ⟨hk.1.1.1.2, ⟨hk.1.2, ⟨hk.1.1.1.1.1.1.1.1.1.1.1.1.1, ⟨hk.1.1.1.1.1.1.1.1.1.1.1.1.2.1, ⟨hk.1.1.1.1.1.1.1.1.1.1.1.1.2.2.1, ⟨hk.1.1.1.1.1.1.1.1.1.1.1.2, ⟨hk.1.1.1.1.1.1.1.1.1.1.2, ⟨hk.1.1.1.1.1.1.1.1.1.2, ⟨hk.1.1.1.1.1.1.1.1.2, ⟨hk.1.1.1.1.1.1.1.2, ⟨hk.1.1.1.1.1.1.2, ⟨hk.1.1.1.1.1.1.1.1.1.1.1.1.2.2.2.1, ⟨hk.1.1.1.1.1.1.1.1.1.1.1.1.2.2.2.2.1, ⟨hk.1.1.1.1.1.1.1.1.1.1.1.1.2.2.2.2.2, ⟨hk.1.1.1.1.2, ⟨hk.1.1.2, hk.2⟩⟩⟩⟩⟩⟩⟩⟩⟩⟩⟩⟩⟩⟩⟩⟩⟩)), B433.out, B434.out, B453.out, B459.out, B465.out, B472.out, B510.out, GW510.out, GE510.out, NB433_510.out, NB510_433.out, NB434_510.out, NB510_434.out, NB453_510.out, NB510_453.out, NB459_510.out, NB510_459.out, NB465_510.out, NB510_465.out, NB472_510.out, NB510_472.out, Xi⟩)
     skip
     refine box_step ?hg (N := 15) ?hd (cs := #[.int .i64 0, .int .i64 0, .slice none 0 0]) (t := 29) ?hr ?_; (case hd => rfl); (case hg => rfl); (case hr => first | (go_simp; done) | (go_simp; rfl))
     intro gb510 hg w176 hbox hb
     replace O_454002 := Am (Kd.N_below (Kd.N_elderB (Xq O_454002) gb510 (Nat.le_of_eq hg.symm)) hb)
     replace O_460002 := Am (Kd.S_below (Xq O_460002) hb)
     replace O_466002 := Am (Kd.S_below (Xq O_466002) hb)
     replace O_473002 := Am (Kd.S_below (Xq O_473002) hb)
     have B510 := Am (hbox)
     have GW510 := Am ((by rw [hg]; exact (below_size Xi) : w.heap.size ≤ gb510))
     have GE510 := Am ((by rw [hg]; exact (below_size Xi) : w.heap.size ≤ gb510))
     replace HB := Xhb hb
     have NB433_510 := Am ((by rw [hg]; exact Nat.ne_of_lt (blk_lt (g := gb433) (o := .cells #[.int .i64 a0_0, .int .i64 a0_1, .slice A0_2 l0_2.length c0_2] 24 (0, 0)) B433.out) : gb433 ≠ gb510))
     have NB510_433 := Am ((by rw [hg]; exact Nat.ne_of_gt (blk_lt (g := gb433) (o := .cells #[.int .i64 a0_0, .int .i64 a0_1, .slice A0_2 l0_2.length c0_2] 24 (0, 0)) B433.out) : gb510 ≠ gb433))
     replace B433 := Xbb B433 hb
     have NB434_510 := Am ((by rw [hg]; exact Nat.ne_of_lt (blk_lt (g := gb434) (o := .cells #[.int .i64 a1_0, .int .i64 a1_1, .slice A1_2 l1_2.length c1_2] 24 (0, 0)) B434.out) : gb434 ≠ gb510))
     have NB510_434 := Am ((by rw [hg]; exact Nat.ne_of_gt (blk_lt (g := gb434) (o := .cells #[.int .i64 a1_0, .int .i64 a1_1, .slice A1_2 l1_2.length c1_2] 24 (0, 0)) B434.out) : gb510 ≠ gb434))
     replace B434 := Xbb B434 hb
     have NB453_510 := Am ((by rw [hg]; exact Nat.ne_of_lt (blk_lt (g := gb453) (o := .cells #[.int .i64 t447, .int .i64 t448, .slice Ao34 t449.length co34] 29 (0, 0)) B453.out) : gb453 ≠ gb510))
     have NB510_453 := Am ((by rw [hg]; exact Nat.ne_of_gt (blk_lt (g := gb453) (o := .cells #[.int .i64 t447, .int .i64 t448, .slice Ao34 t449.length co34] 29 (0, 0)) B453.out) : gb510 ≠ gb453))
     replace B453 := Xbb B453 hb
     have NB459_510 := Am ((by rw [hg]; exact Nat.ne_of_lt (blk_lt (g := gb459) (o := .cells #[.int .i64 t454, .int .i64 t455, .slice Ao45 t487.length co45] 29 (0, 0)) B459.out) : gb459 ≠ gb510))
     have NB510_459 := Am ((by rw [hg]; exact Nat.ne_of_gt (blk_lt (g := gb459) (o := .cells #[.int .i64 t454, .int .i64 t455, .slice Ao45 t487.length co45] 29 (0, 0)) B459.out) : gb510 ≠ gb459))
     replace B459 := Xbb B459 hb
     have NB465_510 := Am ((by rw [hg]; exact Nat.ne_of_lt (blk_lt (g := gb465) (o := .cells #[.int .i64 t460, .int .i64 t461, .slice Ao56 t489.length co56] 29 (0, 0)) B465.out) : gb465 ≠ gb510))
     have NB510_465 := Am ((by rw [hg]; exact Nat.ne_of_gt (blk_lt (g := gb465) (o := .cells #[.int .i64 t460, .int .i64 t461, .slice Ao56 t489.length co56] 29 (0, 0)) B465.out) : gb510 ≠ gb465))
     replace B465 := Xbb B465 hb
     have NB472_510 := Am ((by rw [hg]; exact Nat.ne_of_lt (blk_lt (g := gb472) (o := .cells #[.int .i64 t466, .int .i64 t467, .slice Ao68 t468.length co68] 29 (0, 0)) B472.out) : gb472 ≠ gb510))
     have NB510_472 := Am ((by rw [hg]; exact Nat.ne_of_gt (blk_lt (g := gb472) (o := .cells #[.int .i64 t466, .int .i64 t467, .slice Ao68 t468.length co68] 29 (0, 0)) B472.out) : gb510 ≠ gb472))
     replace B472 := Xbb B472 hb
     clear hb hbox hg
     refine hK.out _ _ ⟨Xk B433 0, Xk B433 1, Xk B433 2, Xk B434 0, Xk B434 1, Xk B434 2⟩ (fun hHeld => ?_)
     clear hK K
     refine Xno ?_
     refine On 1 96 11 263 (fun K hK => ?_)
     refine Gs Try.func15 #[.agg #[.int .i64 a0_0, .int .i64 a0_1, .slice A0_2 l0_2.length c0_2]] ?_
     with_reducible refine (laws_toDoc.calls kj114 a0_0 a0_1 _ _ l0_2 t494 t495 t496 _ ?s1 ?s2 A171.out).mono ?_
     (case s1 => exact Xc HR0_2)
     (case s2 => exact HC0_2.out)
     rintro e w177 ⟨v497, rfl, ho0, hb⟩
     refine ⟨_, rfl, ?_⟩
     obtain ⟨z25_, hzz25_⟩ := XR.zat ho0
     have HO498 := Am (Kd.S_lower (Kd.S_new' (Kd.S_new' (Kd.S_new' (Kd.S_new' (XR.S_newZ ho0 hzz25_) (Kd.N_lt (Xq O_454002))) (Kd.S_lt (Xq O_460002))) (Kd.S_lt (Xq O_466002))) (Kd.S_lt (Xq O_473002))) (below_size Xi))
     replace O_454002 := Am (XR.N_elderZ (Xq O_454002) (Kd.S_base ho0) hb hzz25_)
     replace O_460002 := Am (XR.S_elderZ (Xq O_460002) (Kd.S_base ho0) hb hzz25_)
     replace O_466002 := Am (XR.S_elderZ (Xq O_466002) (Kd.S_base ho0) hb hzz25_)
     replace O_473002 := Am (XR.S_elderZ (Xq O_473002) (Kd.S_base ho0) hb hzz25_)
     replace B433 := Xbb B433 hb
     replace B434 := Xbb B434 hb
     replace B453 := Xbb B453 hb
     replace B459 := Xbb B459 hb
     replace B465 := Xbb B465 hb
     replace B472 := Xbb B472 hb
     replace B510 := Xbb B510 hb
     replace HB := Xhb hb
     try clear hb
     try clear hb2
     try clear hk
     try clear hi
     try clear ho0
     try clear hzz25_
     refine hK.out _ _ ⟨Xk B433 0, Xk B433 1, Xk B433 2, Xk B434 0, Xk B434 1, Xk B434 2⟩ (fun hHeld => ?_)
     clear hK K
     refine Xno ?_
     refine On 3 98 11 271 (fun K hK => ?_)
     refine Gs Try.func15 #[.agg #[.int .i64 a1_0, .int .i64 a1_1, .slice A1_2 l1_2.length c1_2]] ?_
     with_reducible refine (laws_toDoc.calls kj114 a1_0 a1_1 _ _ l1_2 t499 t500 t501 _ ?s1 ?s2 A172.out).mono ?_
     (case s1 => exact Xc HR1_2)
     (case s2 => exact HC1_2.out)
     rintro e w178 ⟨v502, rfl, ho0, hb⟩
     refine ⟨_, rfl, ?_⟩
     obtain ⟨z26_, hzz26_⟩ := XR.zat ho0
     have HO503 := Am (Kd.S_lower (Kd.S_new' (Kd.S_new' (Kd.S_new' (Kd.S_new' (Kd.S_new' (XR.S_newZ ho0 hzz26_) (Kd.N_lt (Xq O_454002))) (Kd.S_lt (Xq O_460002))) (Kd.S_lt (Xq O_466002))) (Kd.S_lt (Xq O_473002))) (Kd.S_lt (Xq HO498))) (below_size Xi))
     replace O_454002 := Am (XR.N_elderZ (Xq O_454002) (Kd.S_base ho0) hb hzz26_)
     replace O_460002 := Am (XR.S_elderZ (Xq O_460002) (Kd.S_base ho0) hb hzz26_)
     replace O_466002 := Am (XR.S_elderZ (Xq O_466002) (Kd.S_base ho0) hb hzz26_)
     replace O_473002 := Am (XR.S_elderZ (Xq O_473002) (Kd.S_base ho0) hb hzz26_)
     replace HO498 := Am (XR.S_elderZ (Xq HO498) (Kd.S_base ho0) hb hzz26_)
     replace B433 := Xbb B433 hb
     replace B434 := Xbb B434 hb
     replace B453 := Xbb B453 hb
     replace B459 := Xbb B459 hb
     replace B465 := Xbb B465 hb
     replace B472 := Xbb B472 hb
     replace B510 := Xbb B510 hb
     replace HB := Xhb hb
     try clear hb
     try clear hb2
     try clear hk
     try clear hi
     try clear ho0
     try clear hzz26_
     obtain ⟨Ao179, co179, eo179⟩ := Kd.S_slice HO498.out
     (first | subst eo179 | (injection eo179 with f1_ f2_ f3_; have f4_ := f1_.symm; have f5_ := f3_.symm; clear f1_ f2_ f3_; subst f4_; subst f5_))
     obtain ⟨Ao180, co180, eo180⟩ := Kd.S_slice HO503.out
     (first | subst eo180 | (injection eo180 with f1_ f2_ f3_; have f4_ := f1_.symm; have f5_ := f3_.symm; clear f1_ f2_ f3_; subst f4_; subst f5_))
     refine hK.out _ _ ⟨Xk B433 0, Xk B433 1, Xk B433 2, Xk B434 0, Xk B434 1, Xk B434 2⟩ (fun hHeld => ?_)
     clear hK K
     refine Xno ?_
     refine On 4 99 11 287 (fun K hK => ?_)
     refine Gs Try.func49 #[.agg #[.int .i64 t494, .int .i64 t495, .slice Ao179 t496.length co179], .agg #[.int .i64 t499, .int .i64 t500, .slice Ao180 t501.length co180]] ?_
     with_reducible refine (impl_SpliceSub.calls kj114 t494 t495 _ _ t496 t499 t500 _ _ t501 t504 t505 t506 t509 _ ?s1 ?s2 ?s3 ?s4 A173.out).mono ?_
     (case s1 => exact Xcd (Kd.S_reads' HO498.out).2.2)
     (case s2 => exact (Kd.S_reads' HO498.out).2.1)
     (case s3 => exact Xcd (Kd.S_reads' HO503.out).2.2)
     (case s4 => exact (Kd.S_reads' HO503.out).2.1)
     rintro e w181 ⟨v507, rfl, ho0, hb⟩
     refine ⟨_, rfl, ?_⟩
     obtain ⟨z27_, hzz27_⟩ := XR.zat ho0
     have HO508 := Am (Kd.S_lower (Kd.S_new' (Kd.S_new' (Kd.S_new' (Kd.S_new' (Kd.S_new' (Kd.S_new' (XR.S_newZ ho0 hzz27_) (Kd.N_lt (Xq O_454002))) (Kd.S_lt (Xq O_460002))) (Kd.S_lt (Xq O_466002))) (Kd.S_lt (Xq O_473002))) (Kd.S_lt (Xq HO498))) (Kd.S_lt (Xq HO503))) (below_size Xi))
     replace O_454002 := Am (XR.N_elderZ (Xq O_454002) (Kd.S_base ho0) hb hzz27_)
     replace O_460002 := Am (XR.S_elderZ (Xq O_460002) (Kd.S_base ho0) hb hzz27_)
     replace O_466002 := Am (XR.S_elderZ (Xq O_466002) (Kd.S_base ho0) hb hzz27_)
     replace O_473002 := Am (XR.S_elderZ (Xq O_473002) (Kd.S_base ho0) hb hzz27_)
     replace HO498 := Am (XR.S_elderZ (Xq HO498) (Kd.S_base ho0) hb hzz27_)
     replace HO503 := Am (XR.S_elderZ (Xq HO503) (Kd.S_base ho0) hb hzz27_)
     replace B433 := Xbb B433 hb
     replace B434 := Xbb B434 hb
     replace B453 := Xbb B453 hb
     replace B459 := Xbb B459 hb
     replace B465 := Xbb B465 hb
     replace B472 := Xbb B472 hb
     replace B510 := Xbb B510 hb
     replace HB := Xhb hb
     try clear hb
     try clear hb2
     try clear hk
     try clear hi
     try clear ho0
     try clear hzz27_
     refine hK.out _ _ ⟨Xk B433 0, Xk B433 1, Xk B433 2, Xk B434 0, Xk B434 1, Xk B434 2⟩ (fun hHeld => ?_)
     clear hK K
     refine Xno ?_
     refine Pu 5 94 11 319 ?_
     refine Pu 6 100 11 383 ?_
     refine Pu 7 101 11 511 ?_
     exact norm_ (by simp only [putAll, Act.put, List.setIfInBounds_toArray, List.set_cons_zero, List.set_cons_succ]) (hCont (.slice Ao179 t496.length co179, .slice Ao180 t501.length co180, v507, gb510, z25_, z26_, z27_) _ ⟨hHeld, (by (with_reducible repeat (first | apply Kd.S_alloc | apply Kd.S_drewN | apply Kd.S_drew)); exact Kd.S_mono HO498.out (fun _ hk => ⟨hk.1.1.1.2, ⟨hk.1.2, ⟨hk.1.1.1.1.1.1.1.2, ⟨hk.1.1.1.1.1.1.2, ⟨hk.1.1.1.1.1.2, ⟨hk.1.1.1.1.2, ⟨hk.1.1.1.1.1.1.1.1.2, ⟨hk.1.1.2, hk.2⟩⟩⟩⟩⟩⟩⟩⟩)), (by (with_reducible repeat (first | apply Kd.S_alloc | apply Kd.S_drewN | apply Kd.S_drew)); exact Kd.S_mono HO503.out (fun _ hk => ⟨hk.1.1.2, ⟨hk.1.2, ⟨hk.1.1.1.1.1.1.2, ⟨hk.1.1.1.1.1.2, ⟨hk.1.1.1.1.2, ⟨hk.1.1.1.2, ⟨hk.1.1.1.1.1.1.1.2, hk.2⟩⟩⟩⟩⟩⟩⟩)), (by (with_reducible repeat (first | apply Kd.S_alloc | apply Kd.S_drewN | apply Kd.S_drew)); exact Kd.S_mono HO508.out (fun _ hk => ⟨hk.1.2, ⟨hk.2, ⟨hk.1.1.1.1.1.2, ⟨hk.1.1.1.1.2, ⟨hk.1.1.1.2, ⟨hk.1.1.2, hk.1.1.1.1.1.1.2⟩⟩⟩⟩⟩⟩)), (by (with_reducible repeat (first | apply Kd.N_alloc | apply Kd.N_drewN | apply Kd.N_drew)); exact Kd.N_mono O_454002.out (fun _ hk => ⟨hk.1.1.1.1.1.2, ⟨hk.1.1.1.2, ⟨hk.1.2, ⟨hk.1.1.1.1.1.1.1.1, ⟨hk.1.1.1.1.1.1.1.2.1, ⟨hk.1.1.1.1.1.1.1.2.2.1, ⟨hk.1.1.1.1.1.1.1.2.2.2.1, ⟨hk.1.1.1.1.1.1.1.2.2.2.2.1, ⟨hk.1.1.1.1.1.1.1.2.2.2.2.2.1, ⟨hk.1.1.1.1.1.1.1.2.2.2.2.2.2.1, ⟨hk.1.1.1.1.1.1.1.2.2.2.2.2.2.2.1, ⟨hk.1.1.1.1.1.1.1.2.2.2.2.2.2.2.2.1, ⟨hk.1.1.1.1.1.1.2, ⟨hk.1.1.1.1.1.1.1.2.2.2.2.2.2.2.2.2.1, ⟨hk.1.1.1.1.1.1.1.2.2.2.2.2.2.2.2.2.2.1, ⟨hk.1.1.1.1.1.1.1.2.2.2.2.2.2.2.2.2.2.2.1, ⟨hk.1.1.1.1.1.1.1.2.2.2.2.2.2.2.2.2.2.2.2.1, ⟨hk.1.1.1.1.1.1.1.2.2.2.2.2.2.2.2.2.2.2.2.2, ⟨hk.1.1.1.1.2, ⟨hk.1.1.2, hk.2⟩⟩⟩⟩⟩⟩⟩⟩⟩⟩⟩⟩⟩⟩⟩⟩⟩⟩⟩⟩)), (by (with_reducible repeat (first | apply Kd.S_alloc | apply Kd.S_drewN | apply Kd.S_drew)); exact Kd.S_mono O_460002.out (fun _ hk => ⟨hk.1.1.1.1.1.2, ⟨hk.1.1.1.2, ⟨hk.1.2, ⟨hk.1.1.1.1.1.1.1, ⟨hk.1.1.1.1.1.1.2.1, ⟨hk.1.1.1.1.1.1.2.2.1, ⟨hk.1.1.1.1.1.1.2.2.2.1, ⟨hk.1.1.1.1.1.1.2.2.2.2.1, ⟨hk.1.1.1.1.1.1.2.2.2.2.2.1, ⟨hk.1.1.1.1.1.1.2.2.2.2.2.2.1, ⟨hk.1.1.1.1.1.1.2.2.2.2.2.2.2, ⟨hk.1.1.1.1.2, ⟨hk.1.1.2, hk.2⟩⟩⟩⟩⟩⟩⟩⟩⟩⟩⟩⟩⟩)), (by (with_reducible repeat (first | apply Kd.S_alloc | apply Kd.S_drewN | apply Kd.S_drew)); exact Kd.S_mono O_466002.out (fun _ hk => ⟨hk.1.1.1.1.1.2, ⟨hk.1.1.1.2, ⟨hk.1.2, ⟨hk.1.1.1.1.1.1.1, ⟨hk.1.1.1.1.1.1.2.1, ⟨hk.1.1.1.1.1.1.2.2.1, ⟨hk.1.1.1.1.1.1.2.2.2.1, ⟨hk.1.1.1.1.1.1.2.2.2.2.1, ⟨hk.1.1.1.1.1.1.2.2.2.2.2.1, ⟨hk.1.1.1.1.1.1.2.2.2.2.2.2, ⟨hk.1.1.1.1.2, ⟨hk.1.1.2, hk.2⟩⟩⟩⟩⟩⟩⟩⟩⟩⟩⟩⟩)), (by (with_reducible repeat (first | apply Kd.S_alloc | apply Kd.S_drewN | apply Kd.S_drew)); exact Kd.S_mono O_473002.out (fun _ hk => ⟨hk.1.1.1.1.1.2, ⟨hk.1.1.1.2, ⟨hk.1.2, ⟨hk.1.1.1.1.1.1.1.1.1.1.1.1.1, ⟨hk.1.1.1.1.1.1.1.1.1.1.1.1.2.1, ⟨hk.1.1.1.1.1.1.1.1.1.1.1.1.2.2.1, ⟨hk.1.1.1.1.1.1.1.1.1.1.1.2, ⟨hk.1.1.1.1.1.1.1.1.1.1.2, ⟨hk.1.1.1.1.1.1.1.1.1.2, ⟨hk.1.1.1.1.1.1.1.1.2, ⟨hk.1.1.1.1.1.1.1.2, ⟨hk.1.1.1.1.1.1.2, ⟨hk.1.1.1.1.1.1.1.1.1.1.1.1.2.2.2.1, ⟨hk.1.1.1.1.1.1.1.1.1.1.1.1.2.2.2.2.1, ⟨hk.1.1.1.1.1.1.1.1.1.1.1.1.2.2.2.2.2, ⟨hk.1.1.1.1.2, ⟨hk.1.1.2, hk.2⟩⟩⟩⟩⟩⟩⟩⟩⟩⟩⟩⟩⟩⟩⟩⟩⟩)), B433.out, B434.out, B453.out, B459.out, B465.out, B472.out, B510.out, GW510.out, GE510.out, NB433_510.out, NB510_433.out, NB434_510.out, NB510_434.out, NB453_510.out, NB510_453.out, NB459_510.out, NB510_459.out, NB465_510.out, NB510_465.out, NB472_510.out, NB510_472.out, Xi⟩)
    rintro ⟨v497, v502, v507, gb510, z28_, z29_, z30_⟩ w182 ⟨hS_, h0_, h1_, h2_, h3_, h4_, h5_, h6_, h7_, h8_, h9_, h10_, h11_, h12_, h13_, h14_, h15_, h16_, h17_, h18_, h19_, h20_, h21_, h22_, h23_, h24_, h25_, h26_, h27_, h28_⟩
    have n0_ : Aside0 (Kd.S k43 43 w182 w.heap.size (fun k_ => some k_ ≠ (v502 : Value).ownBlock ∧ some k_ ≠ (v507 : Value).ownBlock ∧ some k_ ≠ (.slice Ao34 t449.length co34 : Value).ownBlock ∧ some k_ ≠ (.slice Ao45 t487.length co45 : Value).ownBlock ∧ some k_ ≠ (.slice Ao56 t489.length co56 : Value).ownBlock ∧ some k_ ≠ (.slice Ao68 t468.length co68 : Value).ownBlock ∧ k_ ≠ XR.zge z28_ k_ ∧ k_ ≠ XR.zlt z29_ k_ ∧ k_ ≠ XR.zlt z30_ k_) v497 t496) := ⟨h0_⟩
    have n1_ : Aside0 (Kd.S k43 43 w182 w.heap.size (fun k_ => some k_ ≠ (v497 : Value).ownBlock ∧ some k_ ≠ (v507 : Value).ownBlock ∧ some k_ ≠ (.slice Ao34 t449.length co34 : Value).ownBlock ∧ some k_ ≠ (.slice Ao45 t487.length co45 : Value).ownBlock ∧ some k_ ≠ (.slice Ao56 t489.length co56 : Value).ownBlock ∧ some k_ ≠ (.slice Ao68 t468.length co68 : Value).ownBlock ∧ k_ ≠ XR.zge z29_ k_ ∧ k_ ≠ XR.zlt z30_ k_) v502 t501) := ⟨h1_⟩
    have n2_ : Aside0 (Kd.S k43 43 w182 w.heap.size (fun k_ => some k_ ≠ (v497 : Value).ownBlock ∧ some k_ ≠ (v502 : Value).ownBlock ∧ some k_ ≠ (.slice Ao34 t449.length co34 : Value).ownBlock ∧ some k_ ≠ (.slice Ao45 t487.length co45 : Value).ownBlock ∧ some k_ ≠ (.slice Ao56 t489.length co56 : Value).ownBlock ∧ some k_ ≠ (.slice Ao68 t468.length co68 : Value).ownBlock ∧ k_ ≠ XR.zge z30_ k_) v507 t506) := ⟨h2_⟩
    have n3_ : Aside0 (Kd.N k43 43 w182 w.heap.size (fun k_ => some k_ ≠ (v497 : Value).ownBlock ∧ some k_ ≠ (v502 : Value).ownBlock ∧ some k_ ≠ (v507 : Value).ownBlock ∧ some k_ ≠ (.slice Ao45 t487.length co45 : Value).ownBlock ∧ some k_ ≠ (.slice Ao56 t489.length co56 : Value).ownBlock ∧ some k_ ≠ (.slice Ao68 t468.length co68 : Value).ownBlock ∧ k_ ≠ gb433 ∧ k_ ≠ gb434 ∧ k_ ≠ gb453 ∧ k_ ≠ gb459 ∧ k_ ≠ gb465 ∧ k_ ≠ gb472 ∧ k_ ≠ gb510 ∧ k_ ≠ XR.zlt z11_ k_ ∧ k_ ≠ XR.zlt z12_ k_ ∧ k_ ≠ XR.zlt z13_ k_ ∧ k_ ≠ XR.zlt z14_ k_ ∧ k_ ≠ XR.zlt z15_ k_ ∧ k_ ≠ XR.zlt z28_ k_ ∧ k_ ≠ XR.zlt z29_ k_ ∧ k_ ≠ XR.zlt z30_ k_) (.slice Ao34 t449.length co34) t449) := ⟨h3_⟩
    have n4_ : Aside0 (Kd.S k43 43 w182 w.heap.size (fun k_ => some k_ ≠ (v497 : Value).ownBlock ∧ some k_ ≠ (v502 : Value).ownBlock ∧ some k_ ≠ (v507 : Value).ownBlock ∧ some k_ ≠ (.slice Ao34 t449.length co34 : Value).ownBlock ∧ some k_ ≠ (.slice Ao56 t489.length co56 : Value).ownBlock ∧ some k_ ≠ (.slice Ao68 t468.length co68 : Value).ownBlock ∧ k_ ≠ XR.zge z11_ k_ ∧ k_ ≠ XR.zlt z12_ k_ ∧ k_ ≠ XR.zlt z13_ k_ ∧ k_ ≠ XR.zlt z14_ k_ ∧ k_ ≠ XR.zlt z15_ k_ ∧ k_ ≠ XR.zlt z28_ k_ ∧ k_ ≠ XR.zlt z29_ k_ ∧ k_ ≠ XR.zlt z30_ k_) (.slice Ao45 t487.length co45) t487) := ⟨h4_⟩
    have n5_ : Aside0 (Kd.S k43 43 w182 w.heap.size (fun k_ => some k_ ≠ (v497 : Value).ownBlock ∧ some k_ ≠ (v502 : Value).ownBlock ∧ some k_ ≠ (v507 : Value).ownBlock ∧ some k_ ≠ (.slice Ao34 t449.length co34 : Value).ownBlock ∧ some k_ ≠ (.slice Ao45 t487.length co45 : Value).ownBlock ∧ some k_ ≠ (.slice Ao68 t468.length co68 : Value).ownBlock ∧ k_ ≠ XR.zge z12_ k_ ∧ k_ ≠ XR.zlt z13_ k_ ∧ k_ ≠ XR.zlt z14_ k_ ∧ k_ ≠ XR.zlt z15_ k_ ∧ k_ ≠ XR.zlt z28_ k_ ∧ k_ ≠ XR.zlt z29_ k_ ∧ k_ ≠ XR.zlt z30_ k_) (.slice Ao56 t489.length co56) t489) := ⟨h5_⟩
    have n6_ : Aside0 (Kd.S k43 43 w182 w.heap.size (fun k_ => some k_ ≠ (v497 : Value).ownBlock ∧ some k_ ≠ (v502 : Value).ownBlock ∧ some k_ ≠ (v507 : Value).ownBlock ∧ some k_ ≠ (.slice Ao34 t449.length co34 : Value).ownBlock ∧ some k_ ≠ (.slice Ao45 t487.length co45 : Value).ownBlock ∧ some k_ ≠ (.slice Ao56 t489.length co56 : Value).ownBlock ∧ k_ ≠ gb433 ∧ k_ ≠ gb434 ∧ k_ ≠ gb453 ∧ k_ ≠ gb459 ∧ k_ ≠ gb465 ∧ k_ ≠ gb472 ∧ k_ ≠ XR.zge z13_ k_ ∧ k_ ≠ XR.zlt z14_ k_ ∧ k_ ≠ XR.zlt z15_ k_ ∧ k_ ≠ XR.zlt z28_ k_ ∧ k_ ≠ XR.zlt z29_ k_ ∧ k_ ≠ XR.zlt z30_ k_) (.slice Ao68 t468.length co68) t492) := ⟨h6_⟩
    have n7_ : Aside0 (w182.heap[gb433]? = some (.cells #[.int .i64 a0_0, .int .i64 a0_1, .slice A0_2 l0_2.length c0_2] 24 (0, 0))) := ⟨h7_⟩
    have n8_ : Aside0 (w182.heap[gb434]? = some (.cells #[.int .i64 a1_0, .int .i64 a1_1, .slice A1_2 l1_2.length c1_2] 24 (0, 0))) := ⟨h8_⟩
    have n9_ : Aside0 (w182.heap[gb453]? = some (.cells #[.int .i64 t447, .int .i64 t448, .slice Ao34 t449.length co34] 29 (0, 0))) := ⟨h9_⟩
    have n10_ : Aside0 (w182.heap[gb459]? = some (.cells #[.int .i64 t454, .int .i64 t455, .slice Ao45 t487.length co45] 29 (0, 0))) := ⟨h10_⟩
    have n11_ : Aside0 (w182.heap[gb465]? = some (.cells #[.int .i64 t460, .int .i64 t461, .slice Ao56 t489.length co56] 29 (0, 0))) := ⟨h11_⟩
    have n12_ : Aside0 (w182.heap[gb472]? = some (.cells #[.int .i64 t466, .int .i64 t467, .slice Ao68 t468.length co68] 29 (0, 0))) := ⟨h12_⟩
    have n13_ : Aside0 (w182.heap[gb510]? = some (.cells #[.int .i64 0, .int .i64 0, .slice none 0 0] 29 (0, 0))) := ⟨h13_⟩
    have n14_ : Aside0 (w.heap.size ≤ gb510) := ⟨h14_⟩
    have n15_ : Aside0 (w.heap.size ≤ gb510) := ⟨h15_⟩
    have n16_ : Aside0 (gb433 ≠ gb510) := ⟨h16_⟩
    have n17_ : Aside0 (gb510 ≠ gb433) := ⟨h17_⟩
    have n18_ : Aside0 (gb434 ≠ gb510) := ⟨h18_⟩
    have n19_ : Aside0 (gb510 ≠ gb434) := ⟨h19_⟩
    have n20_ : Aside0 (gb453 ≠ gb510) := ⟨h20_⟩
    have n21_ : Aside0 (gb510 ≠ gb453) := ⟨h21_⟩
    have n22_ : Aside0 (gb459 ≠ gb510) := ⟨h22_⟩
    have n23_ : Aside0 (gb510 ≠ gb459) := ⟨h23_⟩
    have n24_ : Aside0 (gb465 ≠ gb510) := ⟨h24_⟩
    have n25_ : Aside0 (gb510 ≠ gb465) := ⟨h25_⟩
    have n26_ : Aside0 (gb472 ≠ gb510) := ⟨h26_⟩
    have n27_ : Aside0 (gb510 ≠ gb472) := ⟨h27_⟩
    have n28_ : Aside0 (Below w.heap.size w w182) := ⟨h28_⟩
    clear O_454002
    clear O_460002
    clear O_466002
    clear O_473002
    clear B433
    clear B434
    clear B453
    clear B459
    clear B465
    clear B472
    clear HB
    clear h0_ h1_ h2_ h3_ h4_ h5_ h6_ h7_ h8_ h9_ h10_ h11_ h12_ h13_ h14_ h15_ h16_ h17_ h18_ h19_ h20_ h21_ h22_ h23_ h24_ h25_ h26_ h27_ h28_
    have HO498 := n0_
    have HO503 := n1_
    have HO508 := n2_
    have O_454002 := n3_
    have O_460002 := n4_
    have O_466002 := n5_
    have O_473002 := n6_
    have B433 := n7_
    have B434 := n8_
    have B453 := n9_
    have B459 := n10_
    have B465 := n11_
    have B472 := n12_
    have B510 := n13_
    have GW510 := n14_
    have GE510 := n15_
    have NB433_510 := n16_
    have NB510_433 := n17_
    have NB434_510 := n18_
    have NB510_434 := n19_
    have NB453_510 := n20_
    have NB510_453 := n21_
    have NB459_510 := n22_
    have NB510_459 := n23_
    have NB465_510 := n24_
    have NB510_465 := n25_
    have NB472_510 := n26_
    have NB510_472 := n27_
    have HB := n28_
    clear n0_ n1_ n2_ n3_ n4_ n5_ n6_ n7_ n8_ n9_ n10_ n11_ n12_ n13_ n14_ n15_ n16_ n17_ n18_ n19_ n20_ n21_ n22_ n23_ n24_ n25_ n26_ n27_ n28_
    have hHeld : w182.cell? ⟨gb433, 0, none⟩ = some (.int .i64 a0_0) ∧ w182.cell? ⟨gb433, 1, none⟩ = some (.int .i64 a0_1) ∧ w182.cell? ⟨gb433, 2, none⟩ = some (.slice A0_2 l0_2.length c0_2) ∧ w182.cell? ⟨gb434, 0, none⟩ = some (.int .i64 a1_0) ∧ w182.cell? ⟨gb434, 1, none⟩ = some (.int .i64 a1_1) ∧ w182.cell? ⟨gb434, 2, none⟩ = some (.slice A1_2 l1_2.length c1_2) := hS_
    obtain ⟨Ao185, co185, eo185⟩ := Kd.S_slice HO508.out
    (first | subst eo185 | (injection eo185 with f1_ f2_ f3_; have f4_ := f1_.symm; have f5_ := f3_.symm; clear f1_ f2_ f3_; subst f4_; subst f5_))
    refine norm_ (a' := ?_) ?_ ?_
    rotate_left
    ·simp only [putAll, Act.put, List.setIfInBounds_toArray, List.set_cons_zero, List.set_cons_succ]
     rfl
    refine one_ (i := 9) (N := none) (XW.bs 11 1023) rfl rfl (one_of HT_.out (by kernel_rfl)) (by decide) (fun K hK => ?_)
    have hs183 : w182.cell? ⟨gb510, 0, none⟩ = some (.int .i64 0) := Xk B510 0
    have hfs183 := blk_frozen B510.out 0
    have hns183_0 := NB433_510.out
    have hns183_1 := NB434_510.out
    have hns183_2 := NB453_510.out
    have hns183_3 := NB459_510.out
    have hns183_4 := NB465_510.out
    have hns183_5 := NB472_510.out
    have hms183_0 := NB510_433.out
    have hms183_1 := NB510_434.out
    have hms183_2 := NB510_453.out
    have hms183_3 := NB510_459.out
    have hms183_4 := NB510_465.out
    have hms183_5 := NB510_472.out
    have hs184 : w182.cell? ⟨gb510, 1, none⟩ = some (.int .i64 0) := Xk B510 1
    have hfs184 := blk_frozen B510.out 1
    have hns184_0 := NB433_510.out
    have hns184_1 := NB434_510.out
    have hns184_2 := NB453_510.out
    have hns184_3 := NB459_510.out
    have hns184_4 := NB465_510.out
    have hns184_5 := NB472_510.out
    have hms184_0 := NB510_433.out
    have hms184_1 := NB510_434.out
    have hms184_2 := NB510_453.out
    have hms184_3 := NB510_459.out
    have hms184_4 := NB510_465.out
    have hms184_5 := NB510_472.out
    have hs186 : w182.cell? ⟨gb510, 2, none⟩ = some (.slice none 0 0) := Xk B510 2
    have hfs186 := blk_frozen B510.out 2
    have hns186_0 := NB433_510.out
    have hns186_1 := NB434_510.out
    have hns186_2 := NB453_510.out
    have hns186_3 := NB459_510.out
    have hns186_4 := NB465_510.out
    have hns186_5 := NB472_510.out
    have hms186_0 := NB510_433.out
    have hms186_1 := NB510_434.out
    have hms186_2 := NB510_453.out
    have hms186_3 := NB510_459.out
    have hms186_4 := NB510_465.out
    have hms186_5 := NB510_472.out
    refine skip_ (w1 := ?_) (by rfl) rfl ?_ ?_
    rotate_left
    ·go_simp
     rfl
    refine hK.out _ _ ⟨((cell_far (p := ⟨gb510, _, none⟩) NB433_510.out _).trans (((cell_far (p := ⟨gb510, _, none⟩) NB433_510.out _).trans (((cell_far (p := ⟨gb510, _, none⟩) NB433_510.out _).trans (hHeld.1)))))), ((cell_far (p := ⟨gb510, _, none⟩) NB433_510.out _).trans (((cell_far (p := ⟨gb510, _, none⟩) NB433_510.out _).trans (((cell_far (p := ⟨gb510, _, none⟩) NB433_510.out _).trans (hHeld.2.1)))))), ((cell_far (p := ⟨gb510, _, none⟩) NB433_510.out _).trans (((cell_far (p := ⟨gb510, _, none⟩) NB433_510.out _).trans (((cell_far (p := ⟨gb510, _, none⟩) NB433_510.out _).trans (hHeld.2.2.1)))))), ((cell_far (p := ⟨gb510, _, none⟩) NB434_510.out _).trans (((cell_far (p := ⟨gb510, _, none⟩) NB434_510.out _).trans (((cell_far (p := ⟨gb510, _, none⟩) NB434_510.out _).trans (hHeld.2.2.2.1)))))), ((cell_far (p := ⟨gb510, _, none⟩) NB434_510.out _).trans (((cell_far (p := ⟨gb510, _, none⟩) NB434_510.out _).trans (((cell_far (p := ⟨gb510, _, none⟩) NB434_510.out _).trans (hHeld.2.2.2.2.1)))))), ((cell_far (p := ⟨gb510, _, none⟩) NB434_510.out _).trans (((cell_far (p := ⟨gb510, _, none⟩) NB434_510.out _).trans (((cell_far (p := ⟨gb510, _, none⟩) NB434_510.out _).trans (hHeld.2.2.2.2.2))))))⟩ (fun hHeld => ?_)
    clear hK K
    refine Pu 10 16 11 2047 ?_
    refine Dn ?_
    go_upto_region 32 with (fail)
    go_cut [110] (fun v110 wc => ∃ (kq : Nat) (x110_173 : Bool), v110 = .bool x110_173 ∧ Aside0 (laws_FnExactSpliceSub.j2 kq t491 x110_173 t466 t467 t492 = some true) ∧ Aside0 (kq ≤ kj114) ∧ Aside0 (Kd.N k43 43 wc w.heap.size (fun k_ => some k_ ≠ ((.slice Ao45 t487.length co45) : Value).ownBlock ∧ some k_ ≠ ((.slice Ao56 t489.length co56) : Value).ownBlock ∧ some k_ ≠ ((.slice Ao68 t468.length co68) : Value).ownBlock ∧ some k_ ≠ ((.slice Ao185 t506.length co185) : Value).ownBlock ∧ k_ ≠ gb433 ∧ k_ ≠ gb434 ∧ k_ ≠ gb453 ∧ k_ ≠ gb459 ∧ k_ ≠ gb465 ∧ k_ ≠ gb472 ∧ k_ ≠ gb510 ∧ k_ ≠ XR.zlt z11_ k_ ∧ k_ ≠ XR.zlt z12_ k_ ∧ k_ ≠ XR.zlt z13_ k_ ∧ k_ ≠ XR.zlt z14_ k_ ∧ k_ ≠ XR.zlt z15_ k_ ∧ k_ ≠ XR.zlt z28_ k_ ∧ k_ ≠ XR.zlt z29_ k_ ∧ k_ ≠ XR.zlt z30_ k_) (.slice Ao34 t449.length co34) t449) ∧ Aside0 (Kd.S k43 43 wc w.heap.size (fun k_ => some k_ ≠ ((.slice Ao34 t449.length co34) : Value).ownBlock ∧ some k_ ≠ ((.slice Ao56 t489.length co56) : Value).ownBlock ∧ some k_ ≠ ((.slice Ao68 t468.length co68) : Value).ownBlock ∧ some k_ ≠ ((.slice Ao185 t506.length co185) : Value).ownBlock ∧ k_ ≠ XR.zge z11_ k_ ∧ k_ ≠ XR.zlt z12_ k_ ∧ k_ ≠ XR.zlt z13_ k_ ∧ k_ ≠ XR.zlt z14_ k_ ∧ k_ ≠ XR.zlt z15_ k_ ∧ k_ ≠ XR.zlt z28_ k_ ∧ k_ ≠ XR.zlt z29_ k_ ∧ k_ ≠ XR.zlt z30_ k_) (.slice Ao45 t487.length co45) t487) ∧ Aside0 (Kd.S k43 43 wc w.heap.size (fun k_ => some k_ ≠ ((.slice Ao34 t449.length co34) : Value).ownBlock ∧ some k_ ≠ ((.slice Ao45 t487.length co45) : Value).ownBlock ∧ some k_ ≠ ((.slice Ao68 t468.length co68) : Value).ownBlock ∧ some k_ ≠ ((.slice Ao185 t506.length co185) : Value).ownBlock ∧ k_ ≠ XR.zge z12_ k_ ∧ k_ ≠ XR.zlt z13_ k_ ∧ k_ ≠ XR.zlt z14_ k_ ∧ k_ ≠ XR.zlt z15_ k_ ∧ k_ ≠ XR.zlt z28_ k_ ∧ k_ ≠ XR.zlt z29_ k_ ∧ k_ ≠ XR.zlt z30_ k_) (.slice Ao56 t489.length co56) t489) ∧ Aside0 (Kd.S k43 43 wc w.heap.size (fun k_ => some k_ ≠ ((.slice Ao34 t449.length co34) : Value).ownBlock ∧ some k_ ≠ ((.slice Ao45 t487.length co45) : Value).ownBlock ∧ some k_ ≠ ((.slice Ao56 t489.length co56) : Value).ownBlock ∧ some k_ ≠ ((.slice Ao185 t506.length co185) : Value).ownBlock ∧ k_ ≠ XR.zge z13_ k_ ∧ k_ ≠ XR.zlt z14_ k_ ∧ k_ ≠ XR.zlt z15_ k_ ∧ k_ ≠ XR.zlt z28_ k_ ∧ k_ ≠ XR.zlt z29_ k_ ∧ k_ ≠ XR.zlt z30_ k_) (.slice Ao68 t468.length co68) t492) ∧ Aside0 (Kd.S k43 43 wc w.heap.size (fun k_ => some k_ ≠ ((.slice Ao34 t449.length co34) : Value).ownBlock ∧ some k_ ≠ ((.slice Ao45 t487.length co45) : Value).ownBlock ∧ some k_ ≠ ((.slice Ao56 t489.length co56) : Value).ownBlock ∧ some k_ ≠ ((.slice Ao68 t468.length co68) : Value).ownBlock ∧ k_ ≠ XR.zge z30_ k_) (.slice Ao185 t506.length co185) t506) ∧ Aside0 (wc.heap[gb433]? = some (.cells #[.int .i64 a0_0, .int .i64 a0_1, (.slice A0_2 l0_2.length c0_2)] 24 (0, 0))) ∧ Aside0 (wc.heap[gb434]? = some (.cells #[.int .i64 a1_0, .int .i64 a1_1, (.slice A1_2 l1_2.length c1_2)] 24 (0, 0))) ∧ Aside0 (wc.heap[gb453]? = some (.cells #[.int .i64 t447, .int .i64 t448, (.slice Ao34 t449.length co34)] 29 (0, 0))) ∧ Aside0 (wc.heap[gb459]? = some (.cells #[.int .i64 t454, .int .i64 t455, (.slice Ao45 t487.length co45)] 29 (0, 0))) ∧ Aside0 (wc.heap[gb465]? = some (.cells #[.int .i64 t460, .int .i64 t461, (.slice Ao56 t489.length co56)] 29 (0, 0))) ∧ Aside0 (wc.heap[gb472]? = some (.cells #[.int .i64 t466, .int .i64 t467, (.slice Ao68 t468.length co68)] 29 (0, 0))) ∧ Aside0 (wc.heap[gb510]? = some (.cells #[.int .i64 t504, .int .i64 t505, (.slice Ao185 t506.length co185)] 29 (0, 0))) ∧ Aside0 (Below w.heap.size w wc))
    case first =>
     have H := HC174.out
     clear HC174
     obtain ⟨t511, A187, H⟩ := Xbi H
     try dsimp only at H
     by_cases c188 : t511 = true
     ·subst c188
      try rw [if_pos rfl] at H
      have H' := Am H
      clear H
      have hnb189 := NB510_433.out
      have hnc189 := NB433_510.out
      have hnb190 := NB510_434.out
      have hnc190 := NB434_510.out
      have hnb191 := NB510_453.out
      have hnc191 := NB453_510.out
      have hnb192 := NB510_459.out
      have hnc192 := NB459_510.out
      have hnb193 := NB510_465.out
      have hnc193 := NB465_510.out
      have hnb194 := NB510_472.out
      have hnc194 := NB472_510.out
      obtain ⟨Z195_0, Z195_1, Z195_2⟩ := Xc3 B510
      obtain ⟨F195_0, F195_1, F195_2⟩ := Xf3 B510
      have hnb196 := NB453_433.out
      have hnc196 := NB433_453.out
      have hnb197 := NB453_434.out
      have hnc197 := NB434_453.out
      have hnb198 := NB453_459.out
      have hnc198 := NB459_453.out
      have hnb199 := NB453_465.out
      have hnc199 := NB465_453.out
      have hnb200 := NB453_472.out
      have hnc200 := NB472_453.out
      obtain ⟨Z201_0, Z201_1, Z201_2⟩ := Xc3 B453
      obtain ⟨F201_0, F201_1, F201_2⟩ := Xf3 B453
      go_wp2_with (first | ((with_reducible refine gate_callee (f := 17) rfl ?_); refine Xgo 104 Try.func17 #[.agg #[.int .i64 t504, .int .i64 t505, .slice Ao185 t506.length co185], .agg #[.int .i64 t447, .int .i64 t448, .slice Ao34 t449.length co34]] ?_; (with_reducible refine (laws_eqDoc.calls kj114 t504 t505 _ _ t506 t447 t448 _ _ t449 true _ ?s1 ?s2 ?s3 ?s4 A187.out).mono ?_); (case s1 => refine (Kd.S_reads' (e := 43) (base := w.heap.size) (ok := fun k_ => (some k_ ≠ (v497 : Value).ownBlock ∧ (some k_ ≠ (v502 : Value).ownBlock ∧ (some k_ ≠ (.slice Ao34 t449.length co34 : Value).ownBlock ∧ (some k_ ≠ (.slice Ao45 t487.length co45 : Value).ownBlock ∧ (some k_ ≠ (.slice Ao56 t489.length co56 : Value).ownBlock ∧ (some k_ ≠ (.slice Ao68 t468.length co68 : Value).ownBlock ∧ k_ ≠ XR.zge z30_ k_))))))) (n := t506.length) (c := co185) ?_).2.2; exact (by (with_reducible repeat (first | apply Kd.S_alloc | apply Kd.S_drewN | apply Kd.S_drew)); exact (Kd.S_mono (Kd.S_far (p := ⟨gb510, 2, none⟩) (Kd.S_far (p := ⟨gb510, 1, none⟩) (Kd.S_far (p := ⟨gb510, 0, none⟩) (Kd.S_types HO508.out B510.out (by decide)) (fun _ hk => hk.2) (.int .i64 t504)) (fun _ hk => hk.2) (.int .i64 t505)) (fun _ hk => hk.2) (.slice Ao185 t506.length co185)) (fun _ h_ => h_.1)))); (case s2 => exact (Kd.S_reads' HO508.out).2.1); (case s3 => refine (Kd.N_reads' (e := 43) (base := w.heap.size) (ok := fun k_ => (some k_ ≠ (v497 : Value).ownBlock ∧ (some k_ ≠ (v502 : Value).ownBlock ∧ (some k_ ≠ (.slice Ao185 t506.length co185 : Value).ownBlock ∧ (some k_ ≠ (.slice Ao45 t487.length co45 : Value).ownBlock ∧ (some k_ ≠ (.slice Ao56 t489.length co56 : Value).ownBlock ∧ (some k_ ≠ (.slice Ao68 t468.length co68 : Value).ownBlock ∧ (k_ ≠ gb433 ∧ (k_ ≠ gb434 ∧ (k_ ≠ gb453 ∧ (k_ ≠ gb459 ∧ (k_ ≠ gb465 ∧ (k_ ≠ gb472 ∧ (k_ ≠ gb510 ∧ (k_ ≠ XR.zlt z11_ k_ ∧ (k_ ≠ XR.zlt z12_ k_ ∧ (k_ ≠ XR.zlt z13_ k_ ∧ (k_ ≠ XR.zlt z14_ k_ ∧ (k_ ≠ XR.zlt z15_ k_ ∧ (k_ ≠ XR.zlt z28_ k_ ∧ (k_ ≠ XR.zlt z29_ k_ ∧ k_ ≠ XR.zlt z30_ k_))))))))))))))))))))) (n := t449.length) (c := co34) ?_).2.2; exact (by (with_reducible repeat (first | apply Kd.N_alloc | apply Kd.N_drewN | apply Kd.N_drew)); exact (Kd.N_mono (Kd.N_far (p := ⟨gb510, 2, none⟩) (Kd.N_far (p := ⟨gb510, 1, none⟩) (Kd.N_far (p := ⟨gb510, 0, none⟩) (Kd.N_mono O_454002.out (fun k_ hk => (⟨hk, hk.2.2.2.2.2.2.2.2.2.2.2.2.1⟩ : _ ∧ k_ ≠ gb510))) (fun _ hk => hk.2) (.int .i64 t504)) (fun _ hk => hk.2) (.int .i64 t505)) (fun _ hk => hk.2) (.slice Ao185 t506.length co185)) (fun _ h_ => h_.1)))); (case s4 => exact (Kd.N_reads' O_454002.out).2.1); rintro e w202 ⟨rfl, hb⟩; refine ⟨_, rfl, ?_⟩; replace O_454002 := Am (Kd.N_below (by (with_reducible repeat (first | apply Kd.N_alloc | apply Kd.N_drewN | apply Kd.N_drew)); exact (Kd.N_mono (Kd.N_far (p := ⟨gb510, 2, none⟩) (Kd.N_far (p := ⟨gb510, 1, none⟩) (Kd.N_far (p := ⟨gb510, 0, none⟩) (Kd.N_mono O_454002.out (fun k_ hk => (⟨hk, hk.2.2.2.2.2.2.2.2.2.2.2.2.1⟩ : _ ∧ k_ ≠ gb510))) (fun _ hk => hk.2) (.int .i64 t504)) (fun _ hk => hk.2) (.int .i64 t505)) (fun _ hk => hk.2) (.slice Ao185 t506.length co185)) (fun _ h_ => h_.1))) hb); replace O_460002 := Am (Kd.S_below (by (with_reducible repeat (first | apply Kd.S_alloc | apply Kd.S_drewN | apply Kd.S_drew)); exact (Kd.S_mono (Kd.S_far (p := ⟨gb510, 2, none⟩) (Kd.S_far (p := ⟨gb510, 1, none⟩) (Kd.S_far (p := ⟨gb510, 0, none⟩) (Kd.S_types O_460002.out B510.out (by decide)) (fun _ hk => hk.2) (.int .i64 t504)) (fun _ hk => hk.2) (.int .i64 t505)) (fun _ hk => hk.2) (.slice Ao185 t506.length co185)) (fun _ h_ => h_.1))) hb); replace O_466002 := Am (Kd.S_below (by (with_reducible repeat (first | apply Kd.S_alloc | apply Kd.S_drewN | apply Kd.S_drew)); exact (Kd.S_mono (Kd.S_far (p := ⟨gb510, 2, none⟩) (Kd.S_far (p := ⟨gb510, 1, none⟩) (Kd.S_far (p := ⟨gb510, 0, none⟩) (Kd.S_types O_466002.out B510.out (by decide)) (fun _ hk => hk.2) (.int .i64 t504)) (fun _ hk => hk.2) (.int .i64 t505)) (fun _ hk => hk.2) (.slice Ao185 t506.length co185)) (fun _ h_ => h_.1))) hb); replace O_473002 := Am (Kd.S_below (by (with_reducible repeat (first | apply Kd.S_alloc | apply Kd.S_drewN | apply Kd.S_drew)); exact (Kd.S_mono (Kd.S_far (p := ⟨gb510, 2, none⟩) (Kd.S_far (p := ⟨gb510, 1, none⟩) (Kd.S_far (p := ⟨gb510, 0, none⟩) (Kd.S_types O_473002.out B510.out (by decide)) (fun _ hk => hk.2) (.int .i64 t504)) (fun _ hk => hk.2) (.int .i64 t505)) (fun _ hk => hk.2) (.slice Ao185 t506.length co185)) (fun _ h_ => h_.1))) hb); replace HO498 := Am (Kd.S_below (by (with_reducible repeat (first | apply Kd.S_alloc | apply Kd.S_drewN | apply Kd.S_drew)); exact (Kd.S_mono (Kd.S_far (p := ⟨gb510, 2, none⟩) (Kd.S_far (p := ⟨gb510, 1, none⟩) (Kd.S_far (p := ⟨gb510, 0, none⟩) (Kd.S_types HO498.out B510.out (by decide)) (fun _ hk => hk.2) (.int .i64 t504)) (fun _ hk => hk.2) (.int .i64 t505)) (fun _ hk => hk.2) (.slice Ao185 t506.length co185)) (fun _ h_ => h_.1))) hb); replace HO503 := Am (Kd.S_below (by (with_reducible repeat (first | apply Kd.S_alloc | apply Kd.S_drewN | apply Kd.S_drew)); exact (Kd.S_mono (Kd.S_far (p := ⟨gb510, 2, none⟩) (Kd.S_far (p := ⟨gb510, 1, none⟩) (Kd.S_far (p := ⟨gb510, 0, none⟩) (Kd.S_types HO503.out B510.out (by decide)) (fun _ hk => hk.2) (.int .i64 t504)) (fun _ hk => hk.2) (.int .i64 t505)) (fun _ hk => hk.2) (.slice Ao185 t506.length co185)) (fun _ h_ => h_.1))) hb); replace HO508 := Am (Kd.S_below (by (with_reducible repeat (first | apply Kd.S_alloc | apply Kd.S_drewN | apply Kd.S_drew)); exact (Kd.S_mono (Kd.S_far (p := ⟨gb510, 2, none⟩) (Kd.S_far (p := ⟨gb510, 1, none⟩) (Kd.S_far (p := ⟨gb510, 0, none⟩) (Kd.S_types HO508.out B510.out (by decide)) (fun _ hk => hk.2) (.int .i64 t504)) (fun _ hk => hk.2) (.int .i64 t505)) (fun _ hk => hk.2) (.slice Ao185 t506.length co185)) (fun _ h_ => h_.1))) hb); replace B433 := Am (blk_below (g := gb433) (o := .cells #[.int .i64 a0_0, .int .i64 a0_1, .slice A0_2 l0_2.length c0_2] 24 (0, 0)) (by refine Xu ?_; refine blk_far ?_ NB433_510.out _; refine Xu ?_; refine blk_far ?_ NB433_510.out _; refine Xu ?_; refine blk_far ?_ NB433_510.out _; refine Xu ?_; exact B433.out) hb); replace B434 := Am (blk_below (g := gb434) (o := .cells #[.int .i64 a1_0, .int .i64 a1_1, .slice A1_2 l1_2.length c1_2] 24 (0, 0)) (by refine Xu ?_; refine blk_far ?_ NB434_510.out _; refine Xu ?_; refine blk_far ?_ NB434_510.out _; refine Xu ?_; refine blk_far ?_ NB434_510.out _; refine Xu ?_; exact B434.out) hb); replace B453 := Am (blk_below (g := gb453) (o := .cells #[.int .i64 t447, .int .i64 t448, .slice Ao34 t449.length co34] 29 (0, 0)) (by refine Xu ?_; refine blk_far ?_ NB453_510.out _; refine Xu ?_; refine blk_far ?_ NB453_510.out _; refine Xu ?_; refine blk_far ?_ NB453_510.out _; refine Xu ?_; exact B453.out) hb); replace B459 := Am (blk_below (g := gb459) (o := .cells #[.int .i64 t454, .int .i64 t455, .slice Ao45 t487.length co45] 29 (0, 0)) (by refine Xu ?_; refine blk_far ?_ NB459_510.out _; refine Xu ?_; refine blk_far ?_ NB459_510.out _; refine Xu ?_; refine blk_far ?_ NB459_510.out _; refine Xu ?_; exact B459.out) hb); replace B465 := Am (blk_below (g := gb465) (o := .cells #[.int .i64 t460, .int .i64 t461, .slice Ao56 t489.length co56] 29 (0, 0)) (by refine Xu ?_; refine blk_far ?_ NB465_510.out _; refine Xu ?_; refine blk_far ?_ NB465_510.out _; refine Xu ?_; refine blk_far ?_ NB465_510.out _; refine Xu ?_; exact B465.out) hb); replace B472 := Am (blk_below (g := gb472) (o := .cells #[.int .i64 t466, .int .i64 t467, .slice Ao68 t468.length co68] 29 (0, 0)) (by refine Xu ?_; refine blk_far ?_ NB472_510.out _; refine Xu ?_; refine blk_far ?_ NB472_510.out _; refine Xu ?_; refine blk_far ?_ NB472_510.out _; refine Xu ?_; exact B472.out) hb); replace B510 := Am (blk_below (g := gb510) (o := .cells #[.int .i64 t504, .int .i64 t505, .slice Ao185 t506.length co185] 29 (0, 0)) (by refine Xu ?_; refine blk_put (cs := #[.int .i64 t504, .int .i64 t505, .slice none 0 0]) ?_ 2 _ rfl; refine Xu ?_; refine blk_put (cs := #[.int .i64 t504, .int .i64 0, .slice none 0 0]) ?_ 1 _ rfl; refine Xu ?_; refine blk_put (cs := #[.int .i64 0, .int .i64 0, .slice none 0 0]) ?_ 0 _ rfl; refine Xu ?_; exact B510.out) hb); replace HB := Xhb hb; clear hb))
      go_meet
      case rel => exact ⟨_, ((t509 != t452)), Xr, H', ⟨by have := HJ22.out; have := HJ114.out; first | omega | exact Nat.le_refl _⟩, ⟨by (try simp only [hl460002_114]); (try simp only [hl466002_114]); (with_reducible repeat (first | apply Kd.N_alloc | apply Kd.N_drewN | apply Kd.N_drew)); exact Kd.N_mono O_454002.out (fun _ hk => ⟨hk.2.2.2.1, ⟨hk.2.2.2.2.1, ⟨hk.2.2.2.2.2.1, ⟨hk.2.2.1, ⟨hk.2.2.2.2.2.2.1, ⟨hk.2.2.2.2.2.2.2.1, ⟨hk.2.2.2.2.2.2.2.2.1, ⟨hk.2.2.2.2.2.2.2.2.2.1, ⟨hk.2.2.2.2.2.2.2.2.2.2.1, ⟨hk.2.2.2.2.2.2.2.2.2.2.2.1, ⟨hk.2.2.2.2.2.2.2.2.2.2.2.2.1, ⟨hk.2.2.2.2.2.2.2.2.2.2.2.2.2.1, ⟨hk.2.2.2.2.2.2.2.2.2.2.2.2.2.2.1, ⟨hk.2.2.2.2.2.2.2.2.2.2.2.2.2.2.2.1, ⟨hk.2.2.2.2.2.2.2.2.2.2.2.2.2.2.2.2.1, ⟨hk.2.2.2.2.2.2.2.2.2.2.2.2.2.2.2.2.2.1, ⟨hk.2.2.2.2.2.2.2.2.2.2.2.2.2.2.2.2.2.2.1, ⟨hk.2.2.2.2.2.2.2.2.2.2.2.2.2.2.2.2.2.2.2.1, hk.2.2.2.2.2.2.2.2.2.2.2.2.2.2.2.2.2.2.2.2⟩⟩⟩⟩⟩⟩⟩⟩⟩⟩⟩⟩⟩⟩⟩⟩⟩⟩)⟩, ⟨by (try simp only [hl460002_114]); (try simp only [hl466002_114]); (with_reducible repeat (first | apply Kd.S_alloc | apply Kd.S_drewN | apply Kd.S_drew)); exact Kd.S_mono O_460002.out (fun _ hk => ⟨hk.2.2.2.1, ⟨hk.2.2.2.2.1, ⟨hk.2.2.2.2.2.1, ⟨hk.2.2.1, ⟨hk.2.2.2.2.2.2.1, ⟨hk.2.2.2.2.2.2.2.1, ⟨hk.2.2.2.2.2.2.2.2.1, ⟨hk.2.2.2.2.2.2.2.2.2.1, ⟨hk.2.2.2.2.2.2.2.2.2.2.1, ⟨hk.2.2.2.2.2.2.2.2.2.2.2.1, ⟨hk.2.2.2.2.2.2.2.2.2.2.2.2.1, hk.2.2.2.2.2.2.2.2.2.2.2.2.2⟩⟩⟩⟩⟩⟩⟩⟩⟩⟩⟩)⟩, ⟨by (try simp only [hl460002_114]); (try simp only [hl466002_114]); (with_reducible repeat (first | apply Kd.S_alloc | apply Kd.S_drewN | apply Kd.S_drew)); exact Kd.S_mono O_466002.out (fun _ hk => ⟨hk.2.2.2.1, ⟨hk.2.2.2.2.1, ⟨hk.2.2.2.2.2.1, ⟨hk.2.2.1, ⟨hk.2.2.2.2.2.2.1, ⟨hk.2.2.2.2.2.2.2.1, ⟨hk.2.2.2.2.2.2.2.2.1, ⟨hk.2.2.2.2.2.2.2.2.2.1, ⟨hk.2.2.2.2.2.2.2.2.2.2.1, ⟨hk.2.2.2.2.2.2.2.2.2.2.2.1, hk.2.2.2.2.2.2.2.2.2.2.2.2⟩⟩⟩⟩⟩⟩⟩⟩⟩⟩)⟩, ⟨by (try simp only [hl460002_114]); (try simp only [hl466002_114]); (with_reducible repeat (first | apply Kd.S_alloc | apply Kd.S_drewN | apply Kd.S_drew)); exact Kd.S_mono O_473002.out (fun _ hk => ⟨hk.2.2.2.1, ⟨hk.2.2.2.2.1, ⟨hk.2.2.2.2.2.1, ⟨hk.2.2.1, ⟨hk.2.2.2.2.2.2.2.2.2.2.2.2.1, ⟨hk.2.2.2.2.2.2.2.2.2.2.2.2.2.1, ⟨hk.2.2.2.2.2.2.2.2.2.2.2.2.2.2.1, ⟨hk.2.2.2.2.2.2.2.2.2.2.2.2.2.2.2.1, ⟨hk.2.2.2.2.2.2.2.2.2.2.2.2.2.2.2.2.1, hk.2.2.2.2.2.2.2.2.2.2.2.2.2.2.2.2.2⟩⟩⟩⟩⟩⟩⟩⟩⟩)⟩, ⟨by (try simp only [hl460002_114]); (try simp only [hl466002_114]); (with_reducible repeat (first | apply Kd.S_alloc | apply Kd.S_drewN | apply Kd.S_drew)); exact Kd.S_mono HO508.out (fun _ hk => ⟨hk.2.2.1, ⟨hk.2.2.2.1, ⟨hk.2.2.2.2.1, ⟨hk.2.2.2.2.2.1, hk.2.2.2.2.2.2⟩⟩⟩⟩)⟩, ⟨by (try simp only [hl460002_114]); (try simp only [hl466002_114]); exact B433.out⟩, ⟨by (try simp only [hl460002_114]); (try simp only [hl466002_114]); exact B434.out⟩, ⟨by (try simp only [hl460002_114]); (try simp only [hl466002_114]); exact B453.out⟩, ⟨by (try simp only [hl460002_114]); (try simp only [hl466002_114]); exact B459.out⟩, ⟨by (try simp only [hl460002_114]); (try simp only [hl466002_114]); exact B465.out⟩, ⟨by (try simp only [hl460002_114]); (try simp only [hl466002_114]); exact B472.out⟩, ⟨by (try simp only [hl460002_114]); (try simp only [hl466002_114]); exact B510.out⟩, ⟨Xi⟩⟩
     replace c188 := Xbf c188
     subst c188
     try rw [if_neg Xft] at H
     have H' := Am H
     clear H
     have hnb203 := NB510_433.out
     have hnc203 := NB433_510.out
     have hnb204 := NB510_434.out
     have hnc204 := NB434_510.out
     have hnb205 := NB510_453.out
     have hnc205 := NB453_510.out
     have hnb206 := NB510_459.out
     have hnc206 := NB459_510.out
     have hnb207 := NB510_465.out
     have hnc207 := NB465_510.out
     have hnb208 := NB510_472.out
     have hnc208 := NB472_510.out
     obtain ⟨Z209_0, Z209_1, Z209_2⟩ := Xc3 B510
     obtain ⟨F209_0, F209_1, F209_2⟩ := Xf3 B510
     have hnb210 := NB453_433.out
     have hnc210 := NB433_453.out
     have hnb211 := NB453_434.out
     have hnc211 := NB434_453.out
     have hnb212 := NB453_459.out
     have hnc212 := NB459_453.out
     have hnb213 := NB453_465.out
     have hnc213 := NB465_453.out
     have hnb214 := NB453_472.out
     have hnc214 := NB472_453.out
     obtain ⟨Z215_0, Z215_1, Z215_2⟩ := Xc3 B453
     obtain ⟨F215_0, F215_1, F215_2⟩ := Xf3 B453
     go_wp2_with (first | ((with_reducible refine gate_callee (f := 17) rfl ?_); refine Xgo 104 Try.func17 #[.agg #[.int .i64 t504, .int .i64 t505, .slice Ao185 t506.length co185], .agg #[.int .i64 t447, .int .i64 t448, .slice Ao34 t449.length co34]] ?_; (with_reducible refine (laws_eqDoc.calls kj114 t504 t505 _ _ t506 t447 t448 _ _ t449 false _ ?s1 ?s2 ?s3 ?s4 A187.out).mono ?_); (case s1 => refine (Kd.S_reads' (e := 43) (base := w.heap.size) (ok := fun k_ => (some k_ ≠ (v497 : Value).ownBlock ∧ (some k_ ≠ (v502 : Value).ownBlock ∧ (some k_ ≠ (.slice Ao34 t449.length co34 : Value).ownBlock ∧ (some k_ ≠ (.slice Ao45 t487.length co45 : Value).ownBlock ∧ (some k_ ≠ (.slice Ao56 t489.length co56 : Value).ownBlock ∧ (some k_ ≠ (.slice Ao68 t468.length co68 : Value).ownBlock ∧ k_ ≠ XR.zge z30_ k_))))))) (n := t506.length) (c := co185) ?_).2.2; exact (by (with_reducible repeat (first | apply Kd.S_alloc | apply Kd.S_drewN | apply Kd.S_drew)); exact (Kd.S_mono (Kd.S_far (p := ⟨gb510, 2, none⟩) (Kd.S_far (p := ⟨gb510, 1, none⟩) (Kd.S_far (p := ⟨gb510, 0, none⟩) (Kd.S_types HO508.out B510.out (by decide)) (fun _ hk => hk.2) (.int .i64 t504)) (fun _ hk => hk.2) (.int .i64 t505)) (fun _ hk => hk.2) (.slice Ao185 t506.length co185)) (fun _ h_ => h_.1)))); (case s2 => exact (Kd.S_reads' HO508.out).2.1); (case s3 => refine (Kd.N_reads' (e := 43) (base := w.heap.size) (ok := fun k_ => (some k_ ≠ (v497 : Value).ownBlock ∧ (some k_ ≠ (v502 : Value).ownBlock ∧ (some k_ ≠ (.slice Ao185 t506.length co185 : Value).ownBlock ∧ (some k_ ≠ (.slice Ao45 t487.length co45 : Value).ownBlock ∧ (some k_ ≠ (.slice Ao56 t489.length co56 : Value).ownBlock ∧ (some k_ ≠ (.slice Ao68 t468.length co68 : Value).ownBlock ∧ (k_ ≠ gb433 ∧ (k_ ≠ gb434 ∧ (k_ ≠ gb453 ∧ (k_ ≠ gb459 ∧ (k_ ≠ gb465 ∧ (k_ ≠ gb472 ∧ (k_ ≠ gb510 ∧ (k_ ≠ XR.zlt z11_ k_ ∧ (k_ ≠ XR.zlt z12_ k_ ∧ (k_ ≠ XR.zlt z13_ k_ ∧ (k_ ≠ XR.zlt z14_ k_ ∧ (k_ ≠ XR.zlt z15_ k_ ∧ (k_ ≠ XR.zlt z28_ k_ ∧ (k_ ≠ XR.zlt z29_ k_ ∧ k_ ≠ XR.zlt z30_ k_))))))))))))))))))))) (n := t449.length) (c := co34) ?_).2.2; exact (by (with_reducible repeat (first | apply Kd.N_alloc | apply Kd.N_drewN | apply Kd.N_drew)); exact (Kd.N_mono (Kd.N_far (p := ⟨gb510, 2, none⟩) (Kd.N_far (p := ⟨gb510, 1, none⟩) (Kd.N_far (p := ⟨gb510, 0, none⟩) (Kd.N_mono O_454002.out (fun k_ hk => (⟨hk, hk.2.2.2.2.2.2.2.2.2.2.2.2.1⟩ : _ ∧ k_ ≠ gb510))) (fun _ hk => hk.2) (.int .i64 t504)) (fun _ hk => hk.2) (.int .i64 t505)) (fun _ hk => hk.2) (.slice Ao185 t506.length co185)) (fun _ h_ => h_.1)))); (case s4 => exact (Kd.N_reads' O_454002.out).2.1); rintro e w216 ⟨rfl, hb⟩; refine ⟨_, rfl, ?_⟩; replace O_454002 := Am (Kd.N_below (by (with_reducible repeat (first | apply Kd.N_alloc | apply Kd.N_drewN | apply Kd.N_drew)); exact (Kd.N_mono (Kd.N_far (p := ⟨gb510, 2, none⟩) (Kd.N_far (p := ⟨gb510, 1, none⟩) (Kd.N_far (p := ⟨gb510, 0, none⟩) (Kd.N_mono O_454002.out (fun k_ hk => (⟨hk, hk.2.2.2.2.2.2.2.2.2.2.2.2.1⟩ : _ ∧ k_ ≠ gb510))) (fun _ hk => hk.2) (.int .i64 t504)) (fun _ hk => hk.2) (.int .i64 t505)) (fun _ hk => hk.2) (.slice Ao185 t506.length co185)) (fun _ h_ => h_.1))) hb); replace O_460002 := Am (Kd.S_below (by (with_reducible repeat (first | apply Kd.S_alloc | apply Kd.S_drewN | apply Kd.S_drew)); exact (Kd.S_mono (Kd.S_far (p := ⟨gb510, 2, none⟩) (Kd.S_far (p := ⟨gb510, 1, none⟩) (Kd.S_far (p := ⟨gb510, 0, none⟩) (Kd.S_types O_460002.out B510.out (by decide)) (fun _ hk => hk.2) (.int .i64 t504)) (fun _ hk => hk.2) (.int .i64 t505)) (fun _ hk => hk.2) (.slice Ao185 t506.length co185)) (fun _ h_ => h_.1))) hb); replace O_466002 := Am (Kd.S_below (by (with_reducible repeat (first | apply Kd.S_alloc | apply Kd.S_drewN | apply Kd.S_drew)); exact (Kd.S_mono (Kd.S_far (p := ⟨gb510, 2, none⟩) (Kd.S_far (p := ⟨gb510, 1, none⟩) (Kd.S_far (p := ⟨gb510, 0, none⟩) (Kd.S_types O_466002.out B510.out (by decide)) (fun _ hk => hk.2) (.int .i64 t504)) (fun _ hk => hk.2) (.int .i64 t505)) (fun _ hk => hk.2) (.slice Ao185 t506.length co185)) (fun _ h_ => h_.1))) hb); replace O_473002 := Am (Kd.S_below (by (with_reducible repeat (first | apply Kd.S_alloc | apply Kd.S_drewN | apply Kd.S_drew)); exact (Kd.S_mono (Kd.S_far (p := ⟨gb510, 2, none⟩) (Kd.S_far (p := ⟨gb510, 1, none⟩) (Kd.S_far (p := ⟨gb510, 0, none⟩) (Kd.S_types O_473002.out B510.out (by decide)) (fun _ hk => hk.2) (.int .i64 t504)) (fun _ hk => hk.2) (.int .i64 t505)) (fun _ hk => hk.2) (.slice Ao185 t506.length co185)) (fun _ h_ => h_.1))) hb); replace HO498 := Am (Kd.S_below (by (with_reducible repeat (first | apply Kd.S_alloc | apply Kd.S_drewN | apply Kd.S_drew)); exact (Kd.S_mono (Kd.S_far (p := ⟨gb510, 2, none⟩) (Kd.S_far (p := ⟨gb510, 1, none⟩) (Kd.S_far (p := ⟨gb510, 0, none⟩) (Kd.S_types HO498.out B510.out (by decide)) (fun _ hk => hk.2) (.int .i64 t504)) (fun _ hk => hk.2) (.int .i64 t505)) (fun _ hk => hk.2) (.slice Ao185 t506.length co185)) (fun _ h_ => h_.1))) hb); replace HO503 := Am (Kd.S_below (by (with_reducible repeat (first | apply Kd.S_alloc | apply Kd.S_drewN | apply Kd.S_drew)); exact (Kd.S_mono (Kd.S_far (p := ⟨gb510, 2, none⟩) (Kd.S_far (p := ⟨gb510, 1, none⟩) (Kd.S_far (p := ⟨gb510, 0, none⟩) (Kd.S_types HO503.out B510.out (by decide)) (fun _ hk => hk.2) (.int .i64 t504)) (fun _ hk => hk.2) (.int .i64 t505)) (fun _ hk => hk.2) (.slice Ao185 t506.length co185)) (fun _ h_ => h_.1))) hb); replace HO508 := Am (Kd.S_below (by (with_reducible repeat (first | apply Kd.S_alloc | apply Kd.S_drewN | apply Kd.S_drew)); exact (Kd.S_mono (Kd.S_far (p := ⟨gb510, 2, none⟩) (Kd.S_far (p := ⟨gb510, 1, none⟩) (Kd.S_far (p := ⟨gb510, 0, none⟩) (Kd.S_types HO508.out B510.out (by decide)) (fun _ hk => hk.2) (.int .i64 t504)) (fun _ hk => hk.2) (.int .i64 t505)) (fun _ hk => hk.2) (.slice Ao185 t506.length co185)) (fun _ h_ => h_.1))) hb); replace B433 := Am (blk_below (g := gb433) (o := .cells #[.int .i64 a0_0, .int .i64 a0_1, .slice A0_2 l0_2.length c0_2] 24 (0, 0)) (by refine Xu ?_; refine blk_far ?_ NB433_510.out _; refine Xu ?_; refine blk_far ?_ NB433_510.out _; refine Xu ?_; refine blk_far ?_ NB433_510.out _; refine Xu ?_; exact B433.out) hb); replace B434 := Am (blk_below (g := gb434) (o := .cells #[.int .i64 a1_0, .int .i64 a1_1, .slice A1_2 l1_2.length c1_2] 24 (0, 0)) (by refine Xu ?_; refine blk_far ?_ NB434_510.out _; refine Xu ?_; refine blk_far ?_ NB434_510.out _; refine Xu ?_; refine blk_far ?_ NB434_510.out _; refine Xu ?_; exact B434.out) hb); replace B453 := Am (blk_below (g := gb453) (o := .cells #[.int .i64 t447, .int .i64 t448, .slice Ao34 t449.length co34] 29 (0, 0)) (by refine Xu ?_; refine blk_far ?_ NB453_510.out _; refine Xu ?_; refine blk_far ?_ NB453_510.out _; refine Xu ?_; refine blk_far ?_ NB453_510.out _; refine Xu ?_; exact B453.out) hb); replace B459 := Am (blk_below (g := gb459) (o := .cells #[.int .i64 t454, .int .i64 t455, .slice Ao45 t487.length co45] 29 (0, 0)) (by refine Xu ?_; refine blk_far ?_ NB459_510.out _; refine Xu ?_; refine blk_far ?_ NB459_510.out _; refine Xu ?_; refine blk_far ?_ NB459_510.out _; refine Xu ?_; exact B459.out) hb); replace B465 := Am (blk_below (g := gb465) (o := .cells #[.int .i64 t460, .int .i64 t461, .slice Ao56 t489.length co56] 29 (0, 0)) (by refine Xu ?_; refine blk_far ?_ NB465_510.out _; refine Xu ?_; refine blk_far ?_ NB465_510.out _; refine Xu ?_; refine blk_far ?_ NB465_510.out _; refine Xu ?_; exact B465.out) hb); replace B472 := Am (blk_below (g := gb472) (o := .cells #[.int .i64 t466, .int .i64 t467, .slice Ao68 t468.length co68] 29 (0, 0)) (by refine Xu ?_; refine blk_far ?_ NB472_510.out _; refine Xu ?_; refine blk_far ?_ NB472_510.out _; refine Xu ?_; refine blk_far ?_ NB472_510.out _; refine Xu ?_; exact B472.out) hb); replace B510 := Am (blk_below (g := gb510) (o := .cells #[.int .i64 t504, .int .i64 t505, .slice Ao185 t506.length co185] 29 (0, 0)) (by refine Xu ?_; refine blk_put (cs := #[.int .i64 t504, .int .i64 t505, .slice none 0 0]) ?_ 2 _ rfl; refine Xu ?_; refine blk_put (cs := #[.int .i64 t504, .int .i64 0, .slice none 0 0]) ?_ 1 _ rfl; refine Xu ?_; refine blk_put (cs := #[.int .i64 0, .int .i64 0, .slice none 0 0]) ?_ 0 _ rfl; refine Xu ?_; exact B510.out) hb); replace HB := Xhb hb; clear hb))
     go_meet
     case rel => exact ⟨_, (true), Xr, H', ⟨by have := HJ22.out; have := HJ114.out; first | omega | exact Nat.le_refl _⟩, ⟨by (try simp only [hl460002_114]); (try simp only [hl466002_114]); (with_reducible repeat (first | apply Kd.N_alloc | apply Kd.N_drewN | apply Kd.N_drew)); exact Kd.N_mono O_454002.out (fun _ hk => ⟨hk.2.2.2.1, ⟨hk.2.2.2.2.1, ⟨hk.2.2.2.2.2.1, ⟨hk.2.2.1, ⟨hk.2.2.2.2.2.2.1, ⟨hk.2.2.2.2.2.2.2.1, ⟨hk.2.2.2.2.2.2.2.2.1, ⟨hk.2.2.2.2.2.2.2.2.2.1, ⟨hk.2.2.2.2.2.2.2.2.2.2.1, ⟨hk.2.2.2.2.2.2.2.2.2.2.2.1, ⟨hk.2.2.2.2.2.2.2.2.2.2.2.2.1, ⟨hk.2.2.2.2.2.2.2.2.2.2.2.2.2.1, ⟨hk.2.2.2.2.2.2.2.2.2.2.2.2.2.2.1, ⟨hk.2.2.2.2.2.2.2.2.2.2.2.2.2.2.2.1, ⟨hk.2.2.2.2.2.2.2.2.2.2.2.2.2.2.2.2.1, ⟨hk.2.2.2.2.2.2.2.2.2.2.2.2.2.2.2.2.2.1, ⟨hk.2.2.2.2.2.2.2.2.2.2.2.2.2.2.2.2.2.2.1, ⟨hk.2.2.2.2.2.2.2.2.2.2.2.2.2.2.2.2.2.2.2.1, hk.2.2.2.2.2.2.2.2.2.2.2.2.2.2.2.2.2.2.2.2⟩⟩⟩⟩⟩⟩⟩⟩⟩⟩⟩⟩⟩⟩⟩⟩⟩⟩)⟩, ⟨by (try simp only [hl460002_114]); (try simp only [hl466002_114]); (with_reducible repeat (first | apply Kd.S_alloc | apply Kd.S_drewN | apply Kd.S_drew)); exact Kd.S_mono O_460002.out (fun _ hk => ⟨hk.2.2.2.1, ⟨hk.2.2.2.2.1, ⟨hk.2.2.2.2.2.1, ⟨hk.2.2.1, ⟨hk.2.2.2.2.2.2.1, ⟨hk.2.2.2.2.2.2.2.1, ⟨hk.2.2.2.2.2.2.2.2.1, ⟨hk.2.2.2.2.2.2.2.2.2.1, ⟨hk.2.2.2.2.2.2.2.2.2.2.1, ⟨hk.2.2.2.2.2.2.2.2.2.2.2.1, ⟨hk.2.2.2.2.2.2.2.2.2.2.2.2.1, hk.2.2.2.2.2.2.2.2.2.2.2.2.2⟩⟩⟩⟩⟩⟩⟩⟩⟩⟩⟩)⟩, ⟨by (try simp only [hl460002_114]); (try simp only [hl466002_114]); (with_reducible repeat (first | apply Kd.S_alloc | apply Kd.S_drewN | apply Kd.S_drew)); exact Kd.S_mono O_466002.out (fun _ hk => ⟨hk.2.2.2.1, ⟨hk.2.2.2.2.1, ⟨hk.2.2.2.2.2.1, ⟨hk.2.2.1, ⟨hk.2.2.2.2.2.2.1, ⟨hk.2.2.2.2.2.2.2.1, ⟨hk.2.2.2.2.2.2.2.2.1, ⟨hk.2.2.2.2.2.2.2.2.2.1, ⟨hk.2.2.2.2.2.2.2.2.2.2.1, ⟨hk.2.2.2.2.2.2.2.2.2.2.2.1, hk.2.2.2.2.2.2.2.2.2.2.2.2⟩⟩⟩⟩⟩⟩⟩⟩⟩⟩)⟩, ⟨by (try simp only [hl460002_114]); (try simp only [hl466002_114]); (with_reducible repeat (first | apply Kd.S_alloc | apply Kd.S_drewN | apply Kd.S_drew)); exact Kd.S_mono O_473002.out (fun _ hk => ⟨hk.2.2.2.1, ⟨hk.2.2.2.2.1, ⟨hk.2.2.2.2.2.1, ⟨hk.2.2.1, ⟨hk.2.2.2.2.2.2.2.2.2.2.2.2.1, ⟨hk.2.2.2.2.2.2.2.2.2.2.2.2.2.1, ⟨hk.2.2.2.2.2.2.2.2.2.2.2.2.2.2.1, ⟨hk.2.2.2.2.2.2.2.2.2.2.2.2.2.2.2.1, ⟨hk.2.2.2.2.2.2.2.2.2.2.2.2.2.2.2.2.1, hk.2.2.2.2.2.2.2.2.2.2.2.2.2.2.2.2.2⟩⟩⟩⟩⟩⟩⟩⟩⟩)⟩, ⟨by (try simp only [hl460002_114]); (try simp only [hl466002_114]); (with_reducible repeat (first | apply Kd.S_alloc | apply Kd.S_drewN | apply Kd.S_drew)); exact Kd.S_mono HO508.out (fun _ hk => ⟨hk.2.2.1, ⟨hk.2.2.2.1, ⟨hk.2.2.2.2.1, ⟨hk.2.2.2.2.2.1, hk.2.2.2.2.2.2⟩⟩⟩⟩)⟩, ⟨by (try simp only [hl460002_114]); (try simp only [hl466002_114]); exact B433.out⟩, ⟨by (try simp only [hl460002_114]); (try simp only [hl466002_114]); exact B434.out⟩, ⟨by (try simp only [hl460002_114]); (try simp only [hl466002_114]); exact B453.out⟩, ⟨by (try simp only [hl460002_114]); (try simp only [hl466002_114]); exact B459.out⟩, ⟨by (try simp only [hl460002_114]); (try simp only [hl466002_114]); exact B465.out⟩, ⟨by (try simp only [hl460002_114]); (try simp only [hl466002_114]); exact B472.out⟩, ⟨by (try simp only [hl460002_114]); (try simp only [hl466002_114]); exact B510.out⟩, ⟨Xi⟩⟩
    clear HC174
    (try clear O_454002); (try clear O_460002); (try clear O_466002); (try clear O_473002); (try clear O_511002)
    obtain ⟨kq, x110_173, rfl, HA, HJ173, O_454002, O_460002, O_466002, O_473002, O_511002, B433, B434, B453, B459, B465, B472, B510, HB⟩ := hcut
    have hl473002_173 := (Kd.S_reads' O_473002.out).1
    rw [hl473002_173] at O_473002
    (try simp only [hl473002_173])
    (try simp only [hl473002_173] at B433)
    (try simp only [hl473002_173] at B434)
    (try simp only [hl473002_173] at B453)
    (try simp only [hl473002_173] at B459)
    (try simp only [hl473002_173] at B465)
    (try simp only [hl473002_173] at B472)
    (try simp only [hl473002_173] at B510)
    (try simp only [hl473002_173] at O_454002)
    (try simp only [hl473002_173] at O_460002)
    (try simp only [hl473002_173] at O_466002)
    (try simp only [hl473002_173] at O_511002)
    cases kq with | zero => cases HA.out | succ kj173 => ?_
    have H := HA.out
    clear HA
    simp only [laws_FnExactSpliceSub.j2] at H
    by_cases c217 : x110_173 = true
    ·subst c217
     try rw [if_pos rfl] at H
     cases H
    replace c217 := Xbf c217
    subst c217
    try rw [if_neg Xft] at H
    obtain ⟨t512, A218, H⟩ := Xbi H
    try dsimp only at H
    have HC219 := Am H
    clear H
    have hnb220 := NB472_433.out
    have hnc220 := NB433_472.out
    have hnb221 := NB472_434.out
    have hnc221 := NB434_472.out
    have hnb222 := NB472_453.out
    have hnc222 := NB453_472.out
    have hnb223 := NB472_459.out
    have hnc223 := NB459_472.out
    have hnb224 := NB472_465.out
    have hnc224 := NB465_472.out
    have hnb225 := NB472_510.out
    have hnc225 := NB510_472.out
    obtain ⟨Z226_0, Z226_1, Z226_2⟩ := Xc3 B472
    obtain ⟨F226_0, F226_1, F226_2⟩ := Xf3 B472
    go_upto_if 115 with ((with_reducible refine gate_callee (f := 45) rfl ?_); refine Xgo 113 Try.func45 #[.agg #[.int .i64 t466, .int .i64 t467, .slice Ao68 t492.length co68], .int .i64 1] ?_; (with_reducible refine (laws_heldDoc.calls kj173 t466 t467 _ _ t492 1 t512 _ ?s1 ?s2 A218.out).mono ?_); (case s1 => exact Xcd (Kd.S_reads' O_473002.out).2.2); (case s2 => exact (Kd.S_reads' O_473002.out).2.1); rintro e w227 ⟨rfl, hb⟩; refine ⟨_, rfl, ?_⟩; replace O_454002 := Am (Kd.N_below (Xq O_454002) hb); replace O_460002 := Am (Kd.S_below (Xq O_460002) hb); replace O_466002 := Am (Kd.S_below (Xq O_466002) hb); replace O_473002 := Am (Kd.S_below (Xq O_473002) hb); replace O_511002 := Am (Kd.S_below (Xq O_511002) hb); replace B433 := Xbb B433 hb; replace B434 := Xbb B434 hb; replace B453 := Xbb B453 hb; replace B459 := Xbb B459 hb; replace B465 := Xbb B465 hb; replace B472 := Xbb B472 hb; replace B510 := Xbb B510 hb; replace HB := Xhb hb; clear hb)
    have H := HC219.out
    clear HC219
    obtain ⟨c228b0, H⟩ | ⟨c228b0, H⟩ := Xit H
    ·(first | rw [c228b0] | (simp only [i64_w, i32_w]; rw [c228b0]) | skip)
     cases H
    (first | rw [c228b0] | (simp only [i64_w, i32_w]; rw [c228b0]) | skip)
    obtain ⟨c229, H⟩ | ⟨c229, H⟩ := Xiu H
    ·have c229b0 : (t512 == t491) = true := beq_iff_eq.mpr c229
     have c229b1 : (t512 != t491) = false := bne_eq_false_iff_eq.mpr c229
     clear c229
     go_wp2
     go_ret
     exact ⟨Xe, Xi⟩
    have c229b0 : (t512 == t491) = false := beq_eq_false_iff_ne.mpr c229
    have c229b1 : (t512 != t491) = true := bne_iff_ne.mpr c229
    cases H
   have c170b0 : (t493 == t491) = false := beq_eq_false_iff_ne.mpr c170
   have c170b1 : (t493 != t491) = true := bne_iff_ne.mpr c170
   cases H
  replace c112 := Xbf c112
  subst c112
  try rw [if_neg Xft] at H
  cases H
 replace c104 := Xbf c104
 subst c104
 try rw [if_neg Xft] at H
 cases H
end Go.Proofs.Ytpdhccdmbdbdpaa.XA
