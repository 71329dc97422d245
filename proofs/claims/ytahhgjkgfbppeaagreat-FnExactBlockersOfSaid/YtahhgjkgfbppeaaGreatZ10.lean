/- Words and contracts of this claim. Conditions: each theorem's own premises. -/
import Derived.Test.YtahhgjkgfbppeaaGreatZ1
import Derived.Test.YtahhgjkgfbppeaaGreatZ9
import Derived.Test.YtahhgjkgfbppeaaGreatZ3
import Derived.Test.YtahhgjkgfbppeaaGreatZ8
section
namespace Go.Proofs.YtahhgjkgfbppeaaGreat.XA
set_option linter.unusedVariables false
open Go.RowKit Go.Proofs.YtahhgjkgfbppeaaGreatW.PrintWords Go.Proofs.YtahhgjkgfbppeaaGreatW.PrintLast Go.Proofs.YtahhgjkgfbppeaaGreatW.PrintMore
def laws_markNodeS.l0 : Nat → List S113 → Int → Int → Option (Int × List S113)
  | 0, _, _, _ => none
  | k + 1, xs_, n_, i_ => if i_ < (xs_.length : Int) then (if 0 ≤ i_ then ((laws_markText.f k (wrap64 ((wrap64 ((wrap64 (n_ + 1)) + 1)) + 1))).bind fun t_ => ((laws_markIntS.f k (rd_T113 xs_ i_).f4 (wrap64 ((wrap64 ((wrap64 ((wrap64 (n_ + 1)) + 1)) + 1)) + 1))).bind fun p_ => laws_markNodeS.l0 k (xs_.set i_.toNat ⟨n_, (wrap64 (n_ + 1)), (wrap64 ((wrap64 (n_ + 1)) + 1)), t_, p_.2⟩) p_.1 (wrap64 (i_ + 1)))) else none) else some (n_, xs_)
def laws_markNodeS.f (k : Nat) (l0 : List S113) (a1 : Int) : Option (Int × List S113) := laws_markNodeS.l0 k l0 a1 0
set_option maxHeartbeats 8000000 in
set_option maxRecDepth 100000 in
theorem laws_markNodeS.calls (k : Nat) (P_ : Nat → Prop) (u_ : Value) (l0 : List S113) (a1 r1 : Int) (r2 : List S113) (w0 w : World) (hB : Below w0.heap.size w0 w) (ho : Kd.S k113 113 w w0.heap.size P_ u_ l0) (h : laws_markNodeS.f k l0 a1 = some (r1, r2)) :
    Calls Tryz.prog 53 #[u_, .int .i64 a1] w fun e w' => e = .returned (.int .i64 r1) ∧ Kd.S k113 113 w' w0.heap.size P_ u_ r2 ∧ Below w0.heap.size w0 w' ∧ Kept w w' P_ := by
  have huN := Tryz.underlying113
  obtain ⟨A, c0, rfl⟩ := Kd.S_slice ho
  obtain ⟨N, hN⟩ : ∃ N, N = l0.length := ⟨_, rfl⟩
  rw [← hN] at ho ⊢
  have HN := Aside0.mk hN.symm
  have HS := Aside0.mk ho
  have HB := Aside0.mk hB
  have HK := Aside0.mk (Kept.refl w P_)
  have H' := Aside0.mk (show laws_markNodeS.l0 k l0 a1 0 = some (r1, r2) from h)
  clear ho hB h hN
  go_enter Tryz.func53, Tryz.ntmps53
  go_wp2
  go_loopg [1, 5] k (fun kq v1 v5 w' => ∃ (n_ i_ : Int) (xs_ : List S113), v1 = .int .i64 n_ ∧ v5 = .int .i64 i_ ∧ Aside0 (laws_markNodeS.l0 kq xs_ n_ i_ = some (r1, r2)) ∧ Aside0 (kq ≤ k) ∧ Aside0 (xs_.length = N) ∧ Aside0 (Kd.S k113 113 w' w0.heap.size P_ (.slice A N c0) xs_) ∧ Aside0 (Below w0.heap.size w0 w') ∧ Aside0 (Kept w w' P_))
  case atStart => exact ⟨a1, 0, l0, by first | rfl | (simp; done), by first | rfl | (simp; done), H', ⟨Nat.le_refl _⟩, HN, HS, HB, HK⟩
  case round =>
    clear H' HS HB HK HN
    obtain ⟨n_, i_, xs_, rfl, rfl, HA, HK1, HL, HS, HB, HK⟩ := hrel
    cases gk with
    | zero => cases HA.out
    | succ k1 =>
      have H := HA.out
      clear HA
      simp only [laws_markNodeS.l0] at H
      obtain ⟨c1, H⟩ | ⟨c1, H⟩ := XW.Xiu H
      · obtain ⟨c2, H⟩ := XW.Xif H
        obtain ⟨t_, HT, H⟩ := XW.Xbi H
        try dsimp only at H
        obtain ⟨⟨n2, ks'⟩, HI, H⟩ := XW.Xbi H
        try dsimp only at H
        have H' := Aside0.mk H
        clear H
        have hL := HL.out
        have hp : 0 < xs_.length := by omega
        obtain ⟨g, cap, e_, hg, _, _⟩ := Kd.S_form HS.out hp
        injection e_ with e1 e2 e3
        subst e1 e3
        clear e2
        have c1' : i_ < (N : Int) := by omega
        obtain ⟨oki, ce, hcl, hM, _, _, hoki, hH⟩ := Kd.S_elem HS.out z113 i_ c2 c1'
        obtain ⟨v4, rfl, hr⟩ := k113_openM hM
        replace hr : (Kd.int .i64).R 3 _ w0.heap.size oki v4 (rd_T113 xs_ i_).f4 := hr
        obtain ⟨A4, c4, rfl⟩ := Kd.R_slice hr
        have M0 := Aside0.mk (show XR.MS k113 113 w w0 _ P_ oki g N c0 xs_ i_ [.int .i64 (rd_T113 xs_ i_).f0, .int .i64 (rd_T113 xs_ i_).f1, .int .i64 (rd_T113 xs_ i_).f2, .string (rd_T113 xs_ i_).f3, (.slice A4 (rd_T113 xs_ i_).f4.length c4)] (.slice A4 (rd_T113 xs_ i_).f4.length c4) (rd_T113 xs_ i_).f4 from ⟨hH, hr, fun k hk => (hoki k hk).2, (Kd.S_R HS.out).1 g (by simp [Value.ownBlock]), hcl, c2, c1', HK.out, HB.out, hg⟩)
        have b0 : decide (i_ < (N : Int)) = true := decide_eq_true c1'
        have b1 : decide (0 ≤ i_) = true := decide_eq_true c2
        have b2 : decide (i_ < 0) = false := decide_eq_false (by omega)
        have p1 := eq_true c2
        have p2 := eq_true c1'
        clear c1 hp hcl hM hoki hH hr HS HB HK hL hg c1' c2
        obtain ⟨⟨hx0, hx1, hx2, hx3, hx4⟩, hf0, hf1, hf2, hf3⟩ := M0.out.five rfl
        go_wp2_with (first
          | ((with_reducible refine gate_store (t := 3) (p := 16) rfl ?_); refine XR.Xst 3 16 ⟨g, i_.toNat * 5, none⟩ (.int .i64 n_) ?_; intro wa hw; have M1 := Aside0.mk (M0.out.put 0 (by decide) (.int .i64 n_) rfl (off := i_.toNat * 5) rfl hw); clear hw hx0 hx1 hx2 hx3 hx4 hf0 hf1 hf2 hf3 M0; obtain ⟨⟨hx0, hx1, hx2, hx3, hx4⟩, hf0, hf1, hf2, hf3⟩ := M1.out.five rfl)
          | ((with_reducible refine gate_store (t := 3) (p := 23) rfl ?_); refine XR.Xst 3 23 ⟨g, i_.toNat * 5 + 1, none⟩ (.int .i64 (wrap64 (n_ + 1))) ?_; intro wb hw; have M2 := Aside0.mk (M1.out.put 1 (by decide) (.int .i64 (wrap64 (n_ + 1))) rfl (off := i_.toNat * 5 + 1) rfl hw); clear hw hx0 hx1 hx2 hx3 hx4 hf0 hf1 hf2 hf3 M1; obtain ⟨⟨hx0, hx1, hx2, hx3, hx4⟩, hf0, hf1, hf2, hf3⟩ := M2.out.five rfl)
          | ((with_reducible refine gate_store (t := 3) (p := 30) rfl ?_); refine XR.Xst 3 30 ⟨g, i_.toNat * 5 + 2, none⟩ (.int .i64 (wrap64 ((wrap64 (n_ + 1)) + 1))) ?_; intro wc hw; have M3 := Aside0.mk (M2.out.put 2 (by decide) (.int .i64 (wrap64 ((wrap64 (n_ + 1)) + 1))) rfl (off := i_.toNat * 5 + 2) rfl hw); clear hw hx0 hx1 hx2 hx3 hx4 hf0 hf1 hf2 hf3 M2; obtain ⟨⟨hx0, hx1, hx2, hx3, hx4⟩, hf0, hf1, hf2, hf3⟩ := M3.out.five rfl)
          | ((with_reducible refine gate_callee (f := 101) rfl ?_); refine XW.Xgo 36 Tryz.func101 #[.int .i64 (wrap64 ((wrap64 ((wrap64 (n_ + 1)) + 1)) + 1))] ?_; (with_reducible refine (laws_markText.calls k1 (wrap64 ((wrap64 ((wrap64 (n_ + 1)) + 1)) + 1)) t_ _ HT.out).mono ?_); rintro e wd ⟨rfl, hb⟩; refine ⟨_, rfl, ?_⟩; have M4 := Aside0.mk (M3.out.over hb); clear hb hx0 hx1 hx2 hx3 hx4 hf0 hf1 hf2 hf3 M3; obtain ⟨⟨hx0, hx1, hx2, hx3, hx4⟩, hf0, hf1, hf2, hf3⟩ := M4.out.five rfl)
          | ((with_reducible refine gate_store (t := 9) (p := 38) rfl ?_); refine XR.Xst 9 38 ⟨g, i_.toNat * 5 + 3, none⟩ (.string t_) ?_; intro we hw; have M5 := Aside0.mk (M4.out.put 3 (by decide) (.string t_) rfl (off := i_.toNat * 5 + 3) rfl hw); clear hw hx0 hx1 hx2 hx3 hx4 hf0 hf1 hf2 hf3 M4; obtain ⟨⟨hx0, hx1, hx2, hx3, hx4⟩, hf0, hf1, hf2, hf3⟩ := M5.out.five rfl)
          | ((with_reducible refine gate_callee (f := 19) rfl ?_); refine XW.Xgo 47 Tryz.func19 #[.slice A4 (rd_T113 xs_ i_).f4.length c4, .int .i64 (wrap64 ((wrap64 ((wrap64 ((wrap64 (n_ + 1)) + 1)) + 1)) + 1))] ?_; (with_reducible refine (laws_markIntS.calls k1 (fun k_ => oki k_) _ (rd_T113 xs_ i_).f4 (wrap64 ((wrap64 ((wrap64 ((wrap64 (n_ + 1)) + 1)) + 1)) + 1)) n2 ks' w0 _ M5.out.below M5.out.r HI.out).mono ?_); rintro e wf ⟨rfl, hr, hb, hk⟩; refine ⟨_, rfl, ?_⟩; have M6 := Aside0.mk (M5.out.kids hr hb hk); clear hr hb hk hx0 hx1 hx2 hx3 hx4 hf0 hf1 hf2 hf3 M5))
        go_roundg k1
        case measure => have := HK1.out; omega
        case rel => exact ⟨n2, wrap64 (i_ + 1), _, by first | rfl | (simp; done) | (simp [*]; done), by first | rfl | (simp; done) | (simp [*]; done), H', ⟨by have := HK1.out; omega⟩, ⟨by rw [List.length_set]; exact HL.out⟩, ⟨Kd.H_back M6.out.h (k113_mkM _ _ _ ⟨n_, (wrap64 (n_ + 1)), (wrap64 ((wrap64 (n_ + 1)) + 1)), t_, ks'⟩ M6.out.r) (fun _ hk => hk)⟩, ⟨M6.out.below⟩, ⟨M6.out.kept⟩⟩
      · simp only [Option.some.injEq, Prod.mk.injEq] at H
        obtain ⟨rfl, rfl⟩ := H
        have hL := HL.out
        have b0 : decide (i_ < (N : Int)) = false := decide_eq_false (by omega)
        clear hL c1
        go_wp2
        go_ret
        exact ⟨by first | rfl | (simp; done) | (simp [*]; done), HS.out, HB.out, HK.out⟩
def laws_markDoc.f (k : Nat) (a0_0 a0_1 : Int) (l0 : List S113) (a1 : Int) : Option (Int × List S113) := laws_markNodeS.f k l0 a1
set_option maxHeartbeats 8000000 in
set_option maxRecDepth 100000 in
theorem laws_markDoc.calls (k : Nat) (a0_0 a0_1 : Int) (P_ : Nat → Prop) (u_ : Value) (l0 : List S113) (a1 r1 : Int) (r2 : List S113) (w0 w : World) (hB : Below w0.heap.size w0 w) (ho : Kd.S k113 113 w w0.heap.size P_ u_ l0) (h : laws_markDoc.f k a0_0 a0_1 l0 a1 = some (r1, r2)) :
    Calls Tryz.prog 17 #[.agg #[.int .i64 a0_0, .int .i64 a0_1, u_], .int .i64 a1] w fun e w' => e = .returned (.int .i64 r1) ∧ Kd.S k113 113 w' w0.heap.size P_ u_ r2 ∧ Below w0.heap.size w0 w' ∧ Kept w w' P_ := by
  have huD := Tryz.underlying35
  obtain ⟨A, c0, rfl⟩ := Kd.S_slice ho
  have HS := Aside0.mk ho
  have HB := Aside0.mk hB
  have HH := Aside0.mk (show laws_markNodeS.f k l0 a1 = some (r1, r2) from h)
  clear ho hB h
  go_enter Tryz.func17, Tryz.ntmps17
  go_wp2_with (first
    | ((with_reducible refine gate_dst (N := 2) rfl ?_); refine XW.Xbox 2 #[.int .i64 a0_0, .int .i64 a0_1, .slice A l0.length c0] 35 ?_; intro gb hg wa hbox hb; have BK := Aside0.mk hbox; replace HS := Aside0.mk (Kd.S_below HS.out hb); replace HB := Aside0.mk (below_step HB.out hb); have HK := Aside0.mk (Kept.of_below hb P_); clear hg hbox hb; obtain ⟨hx0, hx1, hx2⟩ := XW.Xc3 BK)
    | ((with_reducible refine gate_callee (f := 53) rfl ?_); refine XW.Xgo 8 Tryz.func53 #[.slice A l0.length c0, .int .i64 a1] ?_; (with_reducible refine (laws_markNodeS.calls k P_ _ l0 a1 r1 r2 w0 _ HB.out HS.out HH.out).mono ?_); rintro e wb ⟨rfl, hs, hb, hk⟩; refine ⟨_, rfl, ?_⟩; replace HS := Aside0.mk hs; replace HB := Aside0.mk hb; replace HK := Aside0.mk (HK.out.then_ hk (fun k hk' => .inl hk')); clear hs hb hk hx0 hx1 hx2))
  go_ret
  exact ⟨by first | rfl | (simp; done) | (simp [*]; done), HS.out, HB.out, HK.out⟩
end Go.Proofs.YtahhgjkgfbppeaaGreat.XA
end
namespace Go.Proofs.YtahhgjkgfbppeaaGreat.XA
open Go.RowKit Go.Proofs.YtahhgjkgfbppeaaGreatW.PrintWords Go.Proofs.YtahhgjkgfbppeaaGreatW.PrintLast Go.Proofs.YtahhgjkgfbppeaaGreatW.PrintMore XW
attribute [local go_sem] max2_int min2_int max_two min_two max_three min_three max_four min_four   -- for this text's walks alone
set_option linter.unusedVariables false
set_option linter.unusedSimpArgs false
set_option maxHeartbeats 8000000
set_option maxRecDepth 100000
mutual
def laws_FnExactBlockersOf.j0 : Nat → Int → List Int → Int → List Int → Int → Bool → Int → Int → List (S109) → List (S27) → List (S27) → Int → Int → List (S113) → List (S39) → List (S39) → Option (Bool)
 | 0, _, _, _, _, _, _, _, _, _, _, _, _, _, _, _, _ => none
 | k + 1, x2, x8, x9, x12, x13, x57, x654000, x654001, x654002, x655000, x655001, x678000, x678001, x678002, x685000, x685001 => if x57 = true then (some false) else ((laws_toDoc.f k x654000 x654001 x654002).bind fun bt690 => ((laws_eqDoc.f k x678000 x678001 x678002 bt690.1 bt690.2.1 bt690.2.2).bind fun t695 => (if t695 = true then ((laws_toTable.f k x655000 x655001).bind fun bt696 => ((laws_eqTable.f k x685000 x685001 bt696.1 bt696.2).bind fun t702 => (if t702 = true then ((laws_markDoc.f k x678000 x678001 x678002 1).bind fun bt703 => ((laws_markTable.f k x685000 x685001 bt703.1).bind fun bt705 => (if bt705.1 < 0 then (laws_FnExactBlockersOf.j1 k x2 x8 x9 x12 true x654000 x654001 x654002 x655000 x655001) else ((laws_eqIntS.f k x12 x8).bind fun t708 => (if t708 = true then (laws_FnExactBlockersOf.j1 k x2 x8 x9 x12 (x13 != x9) x654000 x654001 x654002 x655000 x655001) else (laws_FnExactBlockersOf.j1 k x2 x8 x9 x12 true x654000 x654001 x654002 x655000 x655001)))))) else (some false)))) else (some false))))
def laws_FnExactBlockersOf.j1 : Nat → Int → List Int → Int → List Int → Bool → Int → Int → List (S109) → List (S27) → List (S27) → Option (Bool)
 | 0, _, _, _, _, _, _, _, _, _, _ => none
 | k + 1, x2, x8, x9, x12, x86, x654000, x654001, x654002, x655000, x655001 => if x86 = true then (some false) else ((laws_markIntS.f k x12 1).bind fun bt709 => ((laws_heldIntS.f k bt709.2 1).bind fun t711 => (if t711 < 0 then (some false) else (if t711 = bt709.1 then ((laws_toDoc.f k x654000 x654001 x654002).bind fun bt712 => ((laws_toTable.f k x655000 x655001).bind fun bt717 => ((impl_BlockersOf.f k bt712.1 bt712.2.1 bt712.2.2 bt717.1 bt717.2 x2).bind fun bt723 => ((laws_eqIntS.f k bt723.1 x8).bind fun t727 => (if t727 = true then (laws_FnExactBlockersOf.j2 k bt709.2 bt709.1 (bt723.2 != x9)) else (laws_FnExactBlockersOf.j2 k bt709.2 bt709.1 true)))))) else (some false)))))
def laws_FnExactBlockersOf.j2 : Nat → List Int → Int → Bool → Option (Bool)
 | 0, _, _, _ => none
 | k + 1, x12, x15, x115 => if x115 = true then (some false) else ((laws_heldIntS.f k x12 1).bind fun t728 => (if t728 < 0 then (some false) else (if t728 = x15 then (some true) else (some false))))
end
def laws_FnExactBlockersOf.f (k : Nat) (a0_0 : Int) (a0_1 : Int) (l0_2 : List (S109)) (l1_0 : List (S27)) (l1_1 : List (S27)) (a2 : Int) : Option (Bool) := (laws_szDoc.f k a0_0 a0_1 l0_2 1048576).bind fun t655 => (if t655 < 0 then (some true) else ((laws_szTable.f l1_0 l1_1 t655).bind fun t656 => (if t656 < 0 then (some true) else ((laws_toDoc.f k a0_0 a0_1 l0_2).bind fun bt657 => ((laws_toTable.f k l1_0 l1_1).bind fun bt662 => ((spec_BlockersOf.f k bt657.1 bt657.2.1 bt657.2.2 bt662.1 bt662.2 a2).bind fun bt668 => ((laws_toDoc.f k a0_0 a0_1 l0_2).bind fun bt672 => ((laws_toTable.f k l1_0 l1_1).bind fun bt678 => ((impl_BlockersOf.f k bt672.1 bt672.2.1 bt672.2.2 bt678.1 bt678.2 a2).bind fun bt685 => ((laws_eqIntS.f k bt685.1 bt668.1).bind fun t689 => (if t689 = true then (laws_FnExactBlockersOf.j0 k a2 bt668.1 bt668.2 bt685.1 bt685.2 (bt685.2 != bt668.2) a0_0 a0_1 l0_2 l1_0 l1_1 bt672.1 bt672.2.1 bt672.2.2 bt678.1 bt678.2) else (laws_FnExactBlockersOf.j0 k a2 bt668.1 bt668.2 bt685.1 bt685.2 true a0_0 a0_1 l0_2 l1_0 l1_1 bt672.1 bt672.2.1 bt672.2.2 bt678.1 bt678.2))))))))))))
def laws_FnExactBlockersOf.T8 : Bool × List (List Nat × List Nat) := (true, [([], []), ([0], [0]), ([], []), ([2, 1], [2]), ([], []), ([1, 3, 4, 3], [1, 3, 4]), ([5], [5]), ([6], [6]), ([6], [6]), ([7, 5, 0, 1, 2, 3, 4, 5, 6, 7], [7]), ([8, 9, 0, 1, 2, 3, 4, 5, 6, 7, 8, 9], [8])])
def laws_FnExactBlockersOf.B8 : List Nat := [0, 1, 0, 7, 0, 31, 63, 127, 127, 255, 1023]
theorem laws_FnExactBlockersOf.tab8 : rtab .any (opsOf Tryz.f4 8) = laws_FnExactBlockersOf.T8 := by kernel_rfl
theorem laws_FnExactBlockersOf.bits8 : waitsOk laws_FnExactBlockersOf.T8.2 laws_FnExactBlockersOf.B8 = true := by kernel_rfl
def laws_FnExactBlockersOf.T31 : Bool × List (List Nat × List Nat) := (true, [([], []), ([0], [0]), ([], []), ([2, 1], [2]), ([], []), ([1, 3, 4, 3], [1, 3, 4]), ([5], [5]), ([6], [6]), ([6], [6]), ([7, 5, 0, 1, 2, 3, 4, 5, 6, 7], [7]), ([8, 9, 0, 1, 2, 3, 4, 5, 6, 7, 8, 9], [8])])
def laws_FnExactBlockersOf.B31 : List Nat := [0, 1, 0, 7, 0, 31, 63, 127, 127, 255, 1023]
theorem laws_FnExactBlockersOf.tab31 : rtab .any (opsOf Tryz.f4 31) = laws_FnExactBlockersOf.T31 := by kernel_rfl
theorem laws_FnExactBlockersOf.bits31 : waitsOk laws_FnExactBlockersOf.T31.2 laws_FnExactBlockersOf.B31 = true := by kernel_rfl
theorem laws_FnExactBlockersOf.calls (k : Nat) (a0_0 : Int) (a0_1 : Int) (A0_2 : Option Addr) (c0_2 : Nat) (l0_2 : List (S109)) (A1_0 : Option Addr) (c1_0 : Nat) (l1_0 : List (S27)) (A1_1 : Option Addr) (c1_1 : Nat) (l1_1 : List (S27)) (a2 : Int) (r : Bool) (w : World) (hr0_2 : Kd.C k109 w A0_2 l0_2.length l0_2) (hc0_2 : l0_2.length ≤ c0_2) (hr1_0 : Kd.C k27 w A1_0 l1_0.length l1_0) (hc1_0 : l1_0.length ≤ c1_0) (hr1_1 : Kd.C k27 w A1_1 l1_1.length l1_1) (hc1_1 : l1_1.length ≤ c1_1) (hr_ : r = true) (h : laws_FnExactBlockersOf.f k a0_0 a0_1 l0_2 l1_0 l1_1 a2 = some r) :
  Calls Tryz.prog 4 #[.agg #[.int .i64 a0_0, .int .i64 a0_1, .slice A0_2 l0_2.length c0_2], .agg #[.slice A1_0 l1_0.length c1_0, .slice A1_1 l1_1.length c1_1], .int .i64 a2] w fun e w' => e = .returned (.bool r) ∧ Below w.heap.size w w' := by
 subst hr_
 have hu24 := Tryz.underlying24
 have hu49 := Tryz.underlying49
 have hu35 := Tryz.underlying35
 have hu53 := Tryz.underlying53
 have HR0_2 := Aside0.mk hr0_2
 have HC0_2 := Aside0.mk hc0_2
 clear hr0_2 hc0_2
 have HR1_0 := Aside0.mk hr1_0
 have HC1_0 := Aside0.mk hc1_0
 clear hr1_0 hc1_0
 have HR1_1 := Aside0.mk hr1_1
 have HC1_1 := Aside0.mk hc1_1
 clear hr1_1 hc1_1
 have HB := Aside0.mk (Below.refl w.heap.size w)
 have H : ((laws_szDoc.f k a0_0 a0_1 l0_2 1048576).bind fun t655 => (if t655 < 0 then (some true) else ((laws_szTable.f l1_0 l1_1 t655).bind fun t656 => (if t656 < 0 then (some true) else ((laws_toDoc.f k a0_0 a0_1 l0_2).bind fun bt657 => ((laws_toTable.f k l1_0 l1_1).bind fun bt662 => ((spec_BlockersOf.f k bt657.1 bt657.2.1 bt657.2.2 bt662.1 bt662.2 a2).bind fun bt668 => ((laws_toDoc.f k a0_0 a0_1 l0_2).bind fun bt672 => ((laws_toTable.f k l1_0 l1_1).bind fun bt678 => ((impl_BlockersOf.f k bt672.1 bt672.2.1 bt672.2.2 bt678.1 bt678.2 a2).bind fun bt685 => ((laws_eqIntS.f k bt685.1 bt668.1).bind fun t689 => (if t689 = true then (laws_FnExactBlockersOf.j0 k a2 bt668.1 bt668.2 bt685.1 bt685.2 (bt685.2 != bt668.2) a0_0 a0_1 l0_2 l1_0 l1_1 bt672.1 bt672.2.1 bt672.2.2 bt678.1 bt678.2) else (laws_FnExactBlockersOf.j0 k a2 bt668.1 bt668.2 bt685.1 bt685.2 true a0_0 a0_1 l0_2 l1_0 l1_1 bt672.1 bt672.2.1 bt672.2.2 bt678.1 bt678.2))))))))))))) = some true := h
 clear h
 obtain ⟨t655, A4, H⟩ := Xbi H
 try dsimp only at H
 have HC5 := Aside0.mk H
 clear H
 go_enter Tryz.func4, Tryz.ntmps4
 go_upto_if 23 with (first | ((with_reducible refine gate_dst (N := 3) rfl ?_); refine Xbox 3 #[.int .i64 a0_0, .int .i64 a0_1, .slice A0_2 l0_2.length c0_2] 24 ?_; intro gb653 hg w6 hbox hb; have BK653 := Aside0.mk (hbox); have GE653 := Xge hg Xi; replace HB := Aside0.mk (below_step Xi hb); clear hb hbox hg) | ((with_reducible refine gate_dst (N := 4) rfl ?_); refine Xbox 4 #[.slice A1_0 l1_0.length c1_0, .slice A1_1 l1_1.length c1_1] 49 ?_; intro gb654 hg w7 hbox hb; have BK654 := Aside0.mk (hbox); have GE654 := Xge hg Xi; replace HB := Aside0.mk (below_step Xi hb); have NB653_654 := Xnb hg BK653; have NB654_653 := Xns NB653_654; replace BK653 := Xbb BK653 hb; clear hb hbox hg; have hnb8 := NB653_654.out; have hnc8 := NB654_653.out; obtain ⟨hcz9_0, hcz9_1, hcz9_2⟩ := Xc3 BK653; obtain ⟨hfz9_0, hfz9_1, hfz9_2⟩ := Xf3 BK653) | ((with_reducible refine gate_callee (f := 7) rfl ?_); refine Xgo 21 Tryz.func7 #[.agg #[.int .i64 a0_0, .int .i64 a0_1, .slice A0_2 l0_2.length c0_2], .int .i64 1048576] ?_; (with_reducible refine (laws_szDoc.calls k a0_0 a0_1 _ _ l0_2 1048576 t655 _ ?side1 ?side2 A4.out).mono ?_); (case side1 => exact Xc HR0_2); (case side2 => exact HC0_2.out); rintro e w10 ⟨rfl, hb⟩; refine ⟨_, rfl, ?_⟩; replace BK653 := Xbb BK653 hb; replace BK654 := Xbb BK654 hb; replace HB := Aside0.mk (below_step Xi hb); clear hb))
 have H := HC5.out
 clear HC5
 obtain ⟨c11b0, H⟩ | ⟨c11b0, H⟩ := Xit H
 ·(first | rw [c11b0] | (simp only [i64_w, i32_w]; rw [c11b0]) | skip)
  go_wp2
  go_ret
  exact ⟨Xe, Xi⟩
 (first | rw [c11b0] | (simp only [i64_w, i32_w]; rw [c11b0]) | skip)
 obtain ⟨t656, A12, H⟩ := Xbi H
 try dsimp only at H
 have HC13 := Aside0.mk H
 clear H
 have hnb14 := NB654_653.out
 have hnc14 := NB653_654.out
 obtain ⟨hcz15_0, hcz15_1⟩ := Xc2 BK654
 obtain ⟨hfz15_0, hfz15_1⟩ := Xf2 BK654
 go_upto_if 28 with (first | ((with_reducible refine gate_callee (f := 21) rfl ?_); refine Xgo 26 Tryz.func21 #[.agg #[.slice A1_0 l1_0.length c1_0, .slice A1_1 l1_1.length c1_1], .int .i64 t655] ?_; (with_reducible refine (laws_szTable.calls _ _ l1_0 _ _ l1_1 t655 t656 _ ?side1 ?side2 ?side3 ?side4 A12.out).mono ?_); (case side1 => exact Xc HR1_0); (case side2 => exact HC1_0.out); (case side3 => exact Xc HR1_1); (case side4 => exact HC1_1.out); rintro e w16 ⟨rfl, hb⟩; refine ⟨_, rfl, ?_⟩; replace BK653 := Xbb BK653 hb; replace BK654 := Xbb BK654 hb; replace HB := Aside0.mk (below_step Xi hb); clear hb))
 have H := HC13.out
 clear HC13
 obtain ⟨c17b0, H⟩ | ⟨c17b0, H⟩ := Xit H
 ·(first | rw [c17b0] | (simp only [i64_w, i32_w]; rw [c17b0]) | skip)
  go_wp2
  go_ret
  exact ⟨Xe, Xi⟩
 (first | rw [c17b0] | (simp only [i64_w, i32_w]; rw [c17b0]) | skip)
 replace H := Option.bind_eq_some_iff.mp H
 obtain ⟨⟨t657, t658, t659⟩, A180, H⟩ := H
 try dsimp only at H
 have A18 := Aside0.mk A180
 clear A180
 replace H := Option.bind_eq_some_iff.mp H
 obtain ⟨⟨t662, t665⟩, A190, H⟩ := H
 try dsimp only at H
 have A19 := Aside0.mk A190
 clear A190
 replace H := Option.bind_eq_some_iff.mp H
 obtain ⟨⟨t668, t671⟩, A200, H⟩ := H
 try dsimp only at H
 have A20 := Aside0.mk A200
 clear A200
 replace H := Option.bind_eq_some_iff.mp H
 obtain ⟨⟨t672, t673, t674⟩, A210, H⟩ := H
 try dsimp only at H
 have A21 := Aside0.mk A210
 clear A210
 replace H := Option.bind_eq_some_iff.mp H
 obtain ⟨⟨t678, t681⟩, A220, H⟩ := H
 try dsimp only at H
 have A22 := Aside0.mk A220
 clear A220
 replace H := Option.bind_eq_some_iff.mp H
 obtain ⟨⟨t685, t688⟩, A230, H⟩ := H
 try dsimp only at H
 have A23 := Aside0.mk A230
 clear A230
 have HC24 := Aside0.mk H
 clear H
 try go_wp2
 replace BK653 := Aside0.mk (blk_drew BK653.out)
 replace BK654 := Aside0.mk (blk_drew BK654.out)
 replace HB := Aside0.mk (below_drew1 HB.out)
 refine start_ (n := 11) (S := fun w' => w'.cell? ⟨gb653, 0, none⟩ = some (.int .i64 a0_0) ∧ w'.cell? ⟨gb653, 1, none⟩ = some (.int .i64 a0_1) ∧ w'.cell? ⟨gb653, 2, none⟩ = some (.slice A0_2 l0_2.length c0_2) ∧ w'.cell? ⟨gb654, 0, none⟩ = some (.slice A1_0 l1_0.length c1_0) ∧ w'.cell? ⟨gb654, 1, none⟩ = some (.slice A1_1 l1_1.length c1_1)) (ds := []) #[false, false, false, false, false, false, false, false, false, false, false] (by kernel_rfl) rfl rfl ⟨(blk_cell BK653.out 0).trans rfl, (blk_cell BK653.out 1).trans rfl, (blk_cell BK653.out 2).trans rfl, (blk_cell BK654.out 0).trans rfl, (blk_cell BK654.out 1).trans rfl⟩ (fun hHeld => ?_); refine with_tabW laws_FnExactBlockersOf.tab8 laws_FnExactBlockersOf.bits8 (fun HT_ HW_ => ?_)
 generalize w16.drew = w25 at BK653 BK654 HB hHeld ⊢
 refine Xpu 4 34 (XW.bs 11 16) HT_.out ?_
 refine Xta 0 30 (XW.bs 11 17) HT_.out HW_.out hHeld ?_
 refine Xta 2 32 (XW.bs 11 21) HT_.out HW_.out hHeld ?_
 refine one_ (i := 1) (N := some 31) (XW.bs 11 23) rfl rfl (one_of HT_.out (by kernel_rfl)) (by decide) (fun K hK => ?_)
 refine goes_ Tryz.func10 (by kernel_rfl) rfl #[.agg #[.int .i64 a0_0, .int .i64 a0_1, .slice A0_2 l0_2.length c0_2]] (by rfl) rfl rfl (by (try simp only [List.map_toArray, List.map_cons, List.map_nil]); first | done | rfl | (simp only [List.length_drop, List.length_take]; rfl)) ?_
 with_reducible refine (laws_toDoc.calls k a0_0 a0_1 _ _ l0_2 t657 t658 t659 _ ?side1 ?side2 A18.out).mono ?_
 (case side1 => exact Xc HR0_2)
 (case side2 => exact HC0_2.out)
 rintro e w26 ⟨v660, rfl, ho0, hb⟩
 refine ⟨_, rfl, ?_⟩
 have HO661 := Aside0.mk (Kd.S_lower ho0 (below_size Xi))
 replace BK653 := Xbb BK653 hb
 replace BK654 := Xbb BK654 hb
 replace HB := Aside0.mk (below_step Xi hb)
 try clear hb
 try clear hb2
 try clear hk
 try clear hi
 try clear ho0
 refine hK.out _ _ ⟨(blk_cell BK653.out 0).trans rfl, (blk_cell BK653.out 1).trans rfl, (blk_cell BK653.out 2).trans rfl, (blk_cell BK654.out 0).trans rfl, (blk_cell BK654.out 1).trans rfl⟩ (fun hHeld => ?_)
 clear hK K
 refine Xno ?_
 refine one_ (i := 3) (N := some 33) (XW.bs 11 31) rfl rfl (one_of HT_.out (by kernel_rfl)) (by decide) (fun K hK => ?_)
 refine goes_ Tryz.func23 (by kernel_rfl) rfl #[.agg #[.slice A1_0 l1_0.length c1_0, .slice A1_1 l1_1.length c1_1]] (by rfl) rfl rfl (by (try simp only [List.map_toArray, List.map_cons, List.map_nil]); first | done | rfl | (simp only [List.length_drop, List.length_take]; rfl)) ?_
 with_reducible refine (laws_toTable.calls k _ _ l1_0 _ _ l1_1 t662 t665 _ ?side1 ?side2 ?side3 ?side4 A19.out).mono ?_
 (case side1 => exact Xc HR1_0)
 (case side2 => exact HC1_0.out)
 (case side3 => exact Xc HR1_1)
 (case side4 => exact HC1_1.out)
 rintro e w27 ⟨v663, v666, rfl, ho0, ho1, hb⟩
 refine ⟨_, rfl, ?_⟩
 replace HO661 := Aside0.mk (Kd.S_below (Xq HO661) hb)
 have HO664 := Aside0.mk (Kd.R_lower ho0 (below_size Xi))
 have HO667 := Aside0.mk (Kd.R_lower ho1 (below_size Xi))
 replace BK653 := Xbb BK653 hb
 replace BK654 := Xbb BK654 hb
 replace HB := Aside0.mk (below_step Xi hb)
 try clear hb
 try clear hb2
 try clear hk
 try clear hi
 try clear ho0
 try clear ho1
 obtain ⟨Ao28, co28, eo28⟩ := Kd.S_slice HO661.out
 (first | subst eo28 | (injection eo28 with f1_ f2_ f3_; have f4_ := f1_.symm; have f5_ := f3_.symm; clear f1_ f2_ f3_; subst f4_; subst f5_))
 obtain ⟨Ao29, co29, eo29⟩ := Kd.R_slice HO664.out
 (first | subst eo29 | (injection eo29 with f1_ f2_ f3_; have f4_ := f1_.symm; have f5_ := f3_.symm; clear f1_ f2_ f3_; subst f4_; subst f5_))
 obtain ⟨Ao30, co30, eo30⟩ := Kd.R_slice HO667.out
 (first | subst eo30 | (injection eo30 with f1_ f2_ f3_; have f4_ := f1_.symm; have f5_ := f3_.symm; clear f1_ f2_ f3_; subst f4_; subst f5_))
 refine hK.out _ _ ⟨(blk_cell BK653.out 0).trans rfl, (blk_cell BK653.out 1).trans rfl, (blk_cell BK653.out 2).trans rfl, (blk_cell BK654.out 0).trans rfl, (blk_cell BK654.out 1).trans rfl⟩ (fun hHeld => ?_)
 clear hK K
 refine Xno ?_
 refine one_ (i := 5) (N := some 35) (XW.bs 11 63) rfl rfl (one_of HT_.out (by kernel_rfl)) (by decide) (fun K hK => ?_)
 refine goes_ Tryz.func22 (by kernel_rfl) rfl #[.agg #[.int .i64 t657, .int .i64 t658, .slice Ao28 t659.length co28], .agg #[.slice Ao29 t662.length co29, .slice Ao30 t665.length co30], .int .i64 a2] (by rfl) rfl rfl (by (try simp only [List.map_toArray, List.map_cons, List.map_nil]); first | done | rfl | (simp only [List.length_drop, List.length_take]; rfl)) ?_
 with_reducible refine (spec_BlockersOf.calls k t657 t658 _ _ t659 _ _ t662 _ _ t665 a2 t668 t671 _ ?side1 ?side2 ?side3 ?side4 ?side5 ?side6 A20.out).mono ?_
 (case side1 => repeat (first | exact (Kd.S_reads' HO661.out).2.2 | (with_reducible first | refine Kd.C_alloc ?_ _ | refine Kd.C_drewN ?_ _ | refine Kd.C_drew ?_)))
 (case side2 => exact (Kd.S_reads' HO661.out).2.1)
 (case side3 => repeat (first | exact (Kd.R_reads' HO664.out).2.2 | (with_reducible first | refine Kd.C_alloc ?_ _ | refine Kd.C_drewN ?_ _ | refine Kd.C_drew ?_)))
 (case side4 => exact (Kd.R_reads' HO664.out).2.1)
 (case side5 => repeat (first | exact (Kd.R_reads' HO667.out).2.2 | (with_reducible first | refine Kd.C_alloc ?_ _ | refine Kd.C_drewN ?_ _ | refine Kd.C_drew ?_)))
 (case side6 => exact (Kd.R_reads' HO667.out).2.1)
 rintro e w31 ⟨v669, rfl, ho0, hb⟩
 refine ⟨_, rfl, ?_⟩
 replace HO661 := Aside0.mk (Kd.S_elder' (Xq HO661) (Kd.R_base ho0) hb)
 replace HO664 := Aside0.mk (Kd.R_below (Xq HO664) hb)
 replace HO667 := Aside0.mk (Kd.R_below (Xq HO667) hb)
 have HO670 := Aside0.mk (Kd.R_lower ho0 (below_size Xi))
 replace BK653 := Xbb BK653 hb
 replace BK654 := Xbb BK654 hb
 replace HB := Aside0.mk (below_step Xi hb)
 try clear hb
 try clear hb2
 try clear hk
 try clear hi
 try clear ho0
 refine hK.out _ _ ⟨(blk_cell BK653.out 0).trans rfl, (blk_cell BK653.out 1).trans rfl, (blk_cell BK653.out 2).trans rfl, (blk_cell BK654.out 0).trans rfl, (blk_cell BK654.out 1).trans rfl⟩ (fun hHeld => ?_)
 clear hK K
 refine Xno ?_
 refine Xpu 6 29 (XW.bs 11 127) HT_.out ?_
 refine Xpu 7 36 (XW.bs 11 255) HT_.out ?_
 refine Xpu 8 37 (XW.bs 11 511) HT_.out ?_
 refine Xpu 9 8 (XW.bs 11 1023) HT_.out ?_
 refine Xpu 10 9 (XW.bs 11 2047) HT_.out ?_
 refine done_ (done_of HT_.out (by kernel_rfl)) ?_
 have hnb32 := NB653_654.out
 have hnc32 := NB654_653.out
 obtain ⟨hcz33_0, hcz33_1, hcz33_2⟩ := Xc3 BK653
 obtain ⟨hfz33_0, hfz33_1, hfz33_2⟩ := Xf3 BK653
 go_upto_region 12 with (first | ((with_reducible refine gate_callee (f := 10) rfl ?_); refine Xgo 39 Tryz.func10 #[.agg #[.int .i64 a0_0, .int .i64 a0_1, .slice A0_2 l0_2.length c0_2]] ?_; (with_reducible refine (laws_toDoc.calls k a0_0 a0_1 _ _ l0_2 t672 t673 t674 _ ?side1 ?side2 A21.out).mono ?_); (case side1 => exact Xc HR0_2); (case side2 => exact HC0_2.out); rintro e w34 ⟨v675, rfl, ho0, hb⟩; refine ⟨_, rfl, ?_⟩; replace HO664 := Aside0.mk (Kd.R_below (Xq HO664) hb); replace HO667 := Aside0.mk (Kd.R_below (Xq HO667) hb); have HO676 := Aside0.mk (Kd.S_lower (Kd.S_new' (Kd.S_new' ho0 (Kd.S_lt (Xq HO661))) (Kd.R_lt (Xq HO670))) (below_size Xi)); replace HO661 := Aside0.mk (Kd.S_elder' (Xq HO661) (Kd.S_base ho0) hb); replace HO670 := Aside0.mk (Kd.R_below (Xq HO670) hb); replace BK653 := Xbb BK653 hb; replace BK654 := Xbb BK654 hb; replace HB := Aside0.mk (below_step Xi hb); clear hb; (try clear ho0)) | ((with_reducible refine gate_dst (N := 10) rfl ?_); refine Xbox 10 #[.int .i64 0, .int .i64 0, .slice none 0 0] 35 ?_; intro gb677 hg w35 hbox hb; replace HO661 := Aside0.mk (Kd.S_below (Xq HO661) hb); replace HO664 := Aside0.mk (Kd.R_below (Xq HO664) hb); replace HO667 := Aside0.mk (Kd.R_below (Xq HO667) hb); replace HO670 := Aside0.mk (Kd.R_below (Xq HO670) hb); replace HO676 := Aside0.mk (Kd.S_below (Xq HO676) hb); have BK677 := Aside0.mk (hbox); have GE677 := Xge hg Xi; replace HB := Aside0.mk (below_step Xi hb); have NB653_677 := Xnb hg BK653; have NB677_653 := Xns NB653_677; replace BK653 := Xbb BK653 hb; have NB654_677 := Xnb hg BK654; have NB677_654 := Xns NB654_677; replace BK654 := Xbb BK654 hb; clear hb hbox hg; have hnb36 := NB677_653.out; have hnc36 := NB653_677.out; have hnb37 := NB677_654.out; have hnc37 := NB654_677.out; obtain ⟨hcz38_0, hcz38_1, hcz38_2⟩ := Xc3 BK677; obtain ⟨hfz38_0, hfz38_1, hfz38_2⟩ := Xf3 BK677; obtain ⟨Ao39, co39, eo39⟩ := Kd.S_slice HO676.out; subst eo39) | ((with_reducible refine gate_store (t := 35) (p := 10) rfl ?_); refine store_event (t := 35) (p := 10) (v := ?vo_w40) (w1 := (((w35.setCell ⟨gb677, 0, none⟩ (.int .i64 t672)).setCell ⟨gb677, 1, none⟩ (.int .i64 t673)).setCell ⟨gb677, 2, none⟩ (.slice Ao39 t674.length co39))) ?hg ?ho ?hn ?hr ?_; (case ho => rfl); (case hg => rfl); (case hn => rfl); (case hr => first | (go_simp; done) | (go_simp; rfl)); intro w40 hw; have n0_ : Aside0 (Kd.S k113 113 w40 w.heap.size (fun k_ => some k_ ≠ (v669 : Value).ownBlock ∧ some k_ ≠ (.slice Ao39 t674.length co39 : Value).ownBlock) (.slice Ao28 t659.length co28) t659) := ⟨(by rw [hw]; exact (by (with_reducible repeat (first | apply Kd.S_alloc | apply Kd.S_drewN | apply Kd.S_drew)); exact Kd.S_mono (Kd.S_far (p := ⟨gb677, 2, none⟩) (Kd.S_far (p := ⟨gb677, 1, none⟩) (Kd.S_far (p := ⟨gb677, 0, none⟩) (Kd.S_types HO661.out BK677.out (by decide)) (fun _ hk => hk.2) (.int .i64 t672)) (fun _ hk => hk.2) (.int .i64 t673)) (fun _ hk => hk.2) (.slice Ao39 t674.length co39)) (fun _ hk => ⟨hk.1.1.2, hk.1.2⟩)))⟩; have n1_ : Aside0 (Kd.R k39 39 w40 w.heap.size (fun k_ => some k_ ≠ (.slice Ao30 t665.length co30 : Value).ownBlock) (.slice Ao29 t662.length co29) t662) := ⟨(by rw [hw]; exact (by (with_reducible repeat (first | apply Kd.R_alloc | apply Kd.R_drewN | apply Kd.R_drew)); exact Kd.R_mono (Kd.R_far (p := ⟨gb677, 2, none⟩) (Kd.R_far (p := ⟨gb677, 1, none⟩) (Kd.R_far (p := ⟨gb677, 0, none⟩) (Kd.R_types HO664.out BK677.out (by decide)) (fun _ hk => hk.2) (.int .i64 t672)) (fun _ hk => hk.2) (.int .i64 t673)) (fun _ hk => hk.2) (.slice Ao39 t674.length co39)) (fun _ hk => hk.1)))⟩; have n2_ : Aside0 (Kd.R k39 39 w40 w.heap.size (fun k_ => some k_ ≠ (.slice Ao29 t662.length co29 : Value).ownBlock) (.slice Ao30 t665.length co30) t665) := ⟨(by rw [hw]; exact (by (with_reducible repeat (first | apply Kd.R_alloc | apply Kd.R_drewN | apply Kd.R_drew)); exact Kd.R_mono (Kd.R_far (p := ⟨gb677, 2, none⟩) (Kd.R_far (p := ⟨gb677, 1, none⟩) (Kd.R_far (p := ⟨gb677, 0, none⟩) (Kd.R_types HO667.out BK677.out (by decide)) (fun _ hk => hk.2) (.int .i64 t672)) (fun _ hk => hk.2) (.int .i64 t673)) (fun _ hk => hk.2) (.slice Ao39 t674.length co39)) (fun _ hk => hk.1)))⟩; have n3_ : Aside0 (Kd.R (Kd.int .i64) 3 w40 w.heap.size (fun _ => True) v669 t668) := ⟨(by rw [hw]; exact (by (with_reducible repeat (first | apply Kd.R_alloc | apply Kd.R_drewN | apply Kd.R_drew)); exact Kd.R_mono (Kd.R_far (p := ⟨gb677, 2, none⟩) (Kd.R_far (p := ⟨gb677, 1, none⟩) (Kd.R_far (p := ⟨gb677, 0, none⟩) (Kd.R_types HO670.out BK677.out (by decide)) (fun _ hk => hk.2) (.int .i64 t672)) (fun _ hk => hk.2) (.int .i64 t673)) (fun _ hk => hk.2) (.slice Ao39 t674.length co39)) (fun _ hk => trivial)))⟩; have n4_ : Aside0 (Kd.S k113 113 w40 w.heap.size (fun k_ => some k_ ≠ (.slice Ao28 t659.length co28 : Value).ownBlock ∧ some k_ ≠ (v669 : Value).ownBlock) (.slice Ao39 t674.length co39) t674) := ⟨(by rw [hw]; exact (by (with_reducible repeat (first | apply Kd.S_alloc | apply Kd.S_drewN | apply Kd.S_drew)); exact Kd.S_mono (Kd.S_far (p := ⟨gb677, 2, none⟩) (Kd.S_far (p := ⟨gb677, 1, none⟩) (Kd.S_far (p := ⟨gb677, 0, none⟩) (Kd.S_types HO676.out BK677.out (by decide)) (fun _ hk => hk.2) (.int .i64 t672)) (fun _ hk => hk.2) (.int .i64 t673)) (fun _ hk => hk.2) (.slice Ao39 t674.length co39)) (fun _ hk => ⟨hk.1.1.2, hk.1.2⟩)))⟩; have n5_ : Aside0 (w40.heap[gb653]? = some (.cells #[.int .i64 a0_0, .int .i64 a0_1, .slice A0_2 l0_2.length c0_2] 24 (0, 0))) := ⟨(by rw [hw]; exact (by (with_reducible repeat (first | refine blk_drewN ?_ _ | refine blk_drew ?_ | refine blk_alloc ?_ _)); refine blk_far ?_ NB653_677.out _; (with_reducible repeat (first | refine blk_drewN ?_ _ | refine blk_drew ?_ | refine blk_alloc ?_ _)); refine blk_far ?_ NB653_677.out _; (with_reducible repeat (first | refine blk_drewN ?_ _ | refine blk_drew ?_ | refine blk_alloc ?_ _)); refine blk_far ?_ NB653_677.out _; (with_reducible repeat (first | refine blk_drewN ?_ _ | refine blk_drew ?_ | refine blk_alloc ?_ _)); exact BK653.out))⟩; have n6_ : Aside0 (w40.heap[gb654]? = some (.cells #[.slice A1_0 l1_0.length c1_0, .slice A1_1 l1_1.length c1_1] 49 (0, 0))) := ⟨(by rw [hw]; exact (by (with_reducible repeat (first | refine blk_drewN ?_ _ | refine blk_drew ?_ | refine blk_alloc ?_ _)); refine blk_far ?_ NB654_677.out _; (with_reducible repeat (first | refine blk_drewN ?_ _ | refine blk_drew ?_ | refine blk_alloc ?_ _)); refine blk_far ?_ NB654_677.out _; (with_reducible repeat (first | refine blk_drewN ?_ _ | refine blk_drew ?_ | refine blk_alloc ?_ _)); refine blk_far ?_ NB654_677.out _; (with_reducible repeat (first | refine blk_drewN ?_ _ | refine blk_drew ?_ | refine blk_alloc ?_ _)); exact BK654.out))⟩; have n7_ : Aside0 (w40.heap[gb677]? = some (.cells #[.int .i64 t672, .int .i64 t673, .slice Ao39 t674.length co39] 35 (0, 0))) := ⟨(by rw [hw]; exact (by (with_reducible repeat (first | refine blk_drewN ?_ _ | refine blk_drew ?_ | refine blk_alloc ?_ _)); refine blk_put (cs := #[.int .i64 t672, .int .i64 t673, .slice none 0 0]) ?_ 2 _ rfl; (with_reducible repeat (first | refine blk_drewN ?_ _ | refine blk_drew ?_ | refine blk_alloc ?_ _)); refine blk_put (cs := #[.int .i64 t672, .int .i64 0, .slice none 0 0]) ?_ 1 _ rfl; (with_reducible repeat (first | refine blk_drewN ?_ _ | refine blk_drew ?_ | refine blk_alloc ?_ _)); refine blk_put (cs := #[.int .i64 0, .int .i64 0, .slice none 0 0]) ?_ 0 _ rfl; (with_reducible repeat (first | refine blk_drewN ?_ _ | refine blk_drew ?_ | refine blk_alloc ?_ _)); exact BK677.out))⟩; have n8_ : Aside0 (Below w.heap.size w w40) := ⟨(by rw [hw]; exact Xi)⟩; clear hw; clear HO661; clear HO664; clear HO667; clear HO670; clear HO676; clear BK653; clear BK654; clear BK677; clear HB; have HO661 := n0_; have HO664 := n1_; have HO667 := n2_; have HO670 := n3_; have HO676 := n4_; have BK653 := n5_; have BK654 := n6_; have BK677 := n7_; have HB := n8_; clear n0_ n1_ n2_ n3_ n4_ n5_ n6_ n7_ n8_; obtain ⟨hcz41_0, hcz41_1⟩ := Xc2 BK654; obtain ⟨hfz41_0, hfz41_1⟩ := Xf2 BK654) | ((with_reducible refine gate_callee (f := 23) rfl ?_); refine Xgo 41 Tryz.func23 #[.agg #[.slice A1_0 l1_0.length c1_0, .slice A1_1 l1_1.length c1_1]] ?_; (with_reducible refine (laws_toTable.calls k _ _ l1_0 _ _ l1_1 t678 t681 _ ?side1 ?side2 ?side3 ?side4 A22.out).mono ?_); (case side1 => exact Xc HR1_0); (case side2 => exact HC1_0.out); (case side3 => exact Xc HR1_1); (case side4 => exact HC1_1.out); rintro e w42 ⟨v679, v682, rfl, ho0, ho1, hb⟩; refine ⟨_, rfl, ?_⟩; replace HO661 := Aside0.mk (Kd.S_below (Xq HO661) hb); replace HO670 := Aside0.mk (Kd.R_below (Xq HO670) hb); replace HO676 := Aside0.mk (Kd.S_below (Xq HO676) hb); have HO680 := Aside0.mk (Kd.R_lower (Kd.R_new' (Kd.R_new' ho0 (Kd.R_lt (Xq HO664))) (Kd.R_lt (Xq HO667))) (below_size Xi)); have HO683 := Aside0.mk (Kd.R_lower (Kd.R_new' (Kd.R_new' ho1 (Kd.R_lt (Xq HO664))) (Kd.R_lt (Xq HO667))) (below_size Xi)); replace HO664 := Aside0.mk (Kd.R_mono (Kd.R_told (Kd.R_told (Kd.R_old (Xq HO664) hb) (Kd.R_base ho0)) (Kd.R_base ho1)) (fun _ h_ => h_.1)); replace HO667 := Aside0.mk (Kd.R_mono (Kd.R_told (Kd.R_told (Kd.R_old (Xq HO667) hb) (Kd.R_base ho0)) (Kd.R_base ho1)) (fun _ h_ => h_.1)); replace BK653 := Xbb BK653 hb; replace BK654 := Xbb BK654 hb; replace BK677 := Xbb BK677 hb; replace HB := Aside0.mk (below_step Xi hb); clear hb; (try clear ho0); (try clear ho1)) | ((with_reducible refine gate_dst (N := 11) rfl ?_); refine Xbox 11 #[.slice none 0 0, .slice none 0 0] 53 ?_; intro gb684 hg w43 hbox hb; replace HO661 := Aside0.mk (Kd.S_below (Xq HO661) hb); replace HO664 := Aside0.mk (Kd.R_below (Xq HO664) hb); replace HO667 := Aside0.mk (Kd.R_below (Xq HO667) hb); replace HO670 := Aside0.mk (Kd.R_below (Xq HO670) hb); replace HO676 := Aside0.mk (Kd.S_below (Xq HO676) hb); replace HO680 := Aside0.mk (Kd.R_below (Xq HO680) hb); replace HO683 := Aside0.mk (Kd.R_below (Xq HO683) hb); have BK684 := Aside0.mk (hbox); have GE684 := Xge hg Xi; replace HB := Aside0.mk (below_step Xi hb); have NB653_684 := Xnb hg BK653; have NB684_653 := Xns NB653_684; replace BK653 := Xbb BK653 hb; have NB654_684 := Xnb hg BK654; have NB684_654 := Xns NB654_684; replace BK654 := Xbb BK654 hb; have NB677_684 := Xnb hg BK677; have NB684_677 := Xns NB677_684; replace BK677 := Xbb BK677 hb; clear hb hbox hg; obtain ⟨Ao44, co44, eo44⟩ := Kd.R_slice HO680.out; subst eo44; have hnb45 := NB684_653.out; have hnc45 := NB653_684.out; have hnb46 := NB684_654.out; have hnc46 := NB654_684.out; have hnb47 := NB684_677.out; have hnc47 := NB677_684.out; obtain ⟨hcz48_0, hcz48_1⟩ := Xc2 BK684; obtain ⟨hfz48_0, hfz48_1⟩ := Xf2 BK684; obtain ⟨Ao49, co49, eo49⟩ := Kd.R_slice HO683.out; subst eo49; obtain ⟨hcz50_0, hcz50_1, hcz50_2⟩ := Xc3 BK677; obtain ⟨hfz50_0, hfz50_1, hfz50_2⟩ := Xf3 BK677) | ((with_reducible refine gate_callee (f := 24) rfl ?_); refine Xgo 46 Tryz.func24 #[.agg #[.int .i64 t672, .int .i64 t673, .slice Ao39 t674.length co39], .agg #[.slice Ao44 t678.length co44, .slice Ao49 t681.length co49], .int .i64 a2] ?_; (with_reducible refine (impl_BlockersOf.calls k t672 t673 _ _ t674 _ _ t678 _ _ t681 a2 t685 t688 _ ?side1 ?side2 ?side3 ?side4 ?side5 ?side6 A23.out).mono ?_); (case side1 => refine (Kd.S_reads' (e := 113) (base := w.heap.size) (ok := fun k_ => (some k_ ≠ (.slice Ao28 t659.length co28 : Value).ownBlock ∧ some k_ ≠ (v669 : Value).ownBlock)) (n := t674.length) (c := co39) ?_).2.2; exact (by (with_reducible repeat (first | apply Kd.S_alloc | apply Kd.S_drewN | apply Kd.S_drew)); exact (Kd.S_mono (Kd.S_far (p := ⟨gb684, 1, none⟩) (Kd.S_far (p := ⟨gb684, 0, none⟩) (Kd.S_types HO676.out BK684.out (by decide)) (fun _ hk => hk.2) (.slice Ao44 t678.length co44)) (fun _ hk => hk.2) (.slice Ao49 t681.length co49)) (fun _ h_ => h_.1)))); (case side2 => exact (Kd.S_reads' HO676.out).2.1); (case side3 => refine (Kd.R_reads' (e := 39) (base := w.heap.size) (ok := fun k_ => ((some k_ ≠ (.slice Ao49 t681.length co49 : Value).ownBlock ∧ some k_ ≠ (.slice Ao29 t662.length co29 : Value).ownBlock) ∧ some k_ ≠ (.slice Ao30 t665.length co30 : Value).ownBlock)) (n := t678.length) (c := co44) ?_).2.2; exact (by (with_reducible repeat (first | apply Kd.R_alloc | apply Kd.R_drewN | apply Kd.R_drew)); exact (Kd.R_mono (Kd.R_far (p := ⟨gb684, 1, none⟩) (Kd.R_far (p := ⟨gb684, 0, none⟩) (Kd.R_types HO680.out BK684.out (by decide)) (fun _ hk => hk.2) (.slice Ao44 t678.length co44)) (fun _ hk => hk.2) (.slice Ao49 t681.length co49)) (fun _ h_ => h_.1)))); (case side4 => exact (Kd.R_reads' HO680.out).2.1); (case side5 => refine (Kd.R_reads' (e := 39) (base := w.heap.size) (ok := fun k_ => ((some k_ ≠ (.slice Ao44 t678.length co44 : Value).ownBlock ∧ some k_ ≠ (.slice Ao29 t662.length co29 : Value).ownBlock) ∧ some k_ ≠ (.slice Ao30 t665.length co30 : Value).ownBlock)) (n := t681.length) (c := co49) ?_).2.2; exact (by (with_reducible repeat (first | apply Kd.R_alloc | apply Kd.R_drewN | apply Kd.R_drew)); exact (Kd.R_mono (Kd.R_far (p := ⟨gb684, 1, none⟩) (Kd.R_far (p := ⟨gb684, 0, none⟩) (Kd.R_types HO683.out BK684.out (by decide)) (fun _ hk => hk.2) (.slice Ao44 t678.length co44)) (fun _ hk => hk.2) (.slice Ao49 t681.length co49)) (fun _ h_ => h_.1)))); (case side6 => exact (Kd.R_reads' HO683.out).2.1); rintro e w51 ⟨v686, rfl, ho0, hb⟩; refine ⟨_, rfl, ?_⟩; replace HO661 := Aside0.mk (Kd.S_elder' (by (with_reducible repeat (first | apply Kd.S_alloc | apply Kd.S_drewN | apply Kd.S_drew)); exact (Kd.S_mono (Kd.S_far (p := ⟨gb684, 1, none⟩) (Kd.S_far (p := ⟨gb684, 0, none⟩) (Kd.S_types HO661.out BK684.out (by decide)) (fun _ hk => hk.2) (.slice Ao44 t678.length co44)) (fun _ hk => hk.2) (.slice Ao49 t681.length co49)) (fun _ h_ => h_.1))) (Kd.R_base ho0) hb); replace HO664 := Aside0.mk (Kd.R_below (by (with_reducible repeat (first | apply Kd.R_alloc | apply Kd.R_drewN | apply Kd.R_drew)); exact (Kd.R_mono (Kd.R_far (p := ⟨gb684, 1, none⟩) (Kd.R_far (p := ⟨gb684, 0, none⟩) (Kd.R_types HO664.out BK684.out (by decide)) (fun _ hk => hk.2) (.slice Ao44 t678.length co44)) (fun _ hk => hk.2) (.slice Ao49 t681.length co49)) (fun _ h_ => h_.1))) hb); replace HO667 := Aside0.mk (Kd.R_below (by (with_reducible repeat (first | apply Kd.R_alloc | apply Kd.R_drewN | apply Kd.R_drew)); exact (Kd.R_mono (Kd.R_far (p := ⟨gb684, 1, none⟩) (Kd.R_far (p := ⟨gb684, 0, none⟩) (Kd.R_types HO667.out BK684.out (by decide)) (fun _ hk => hk.2) (.slice Ao44 t678.length co44)) (fun _ hk => hk.2) (.slice Ao49 t681.length co49)) (fun _ h_ => h_.1))) hb); replace HO676 := Aside0.mk (Kd.S_elder' (by (with_reducible repeat (first | apply Kd.S_alloc | apply Kd.S_drewN | apply Kd.S_drew)); exact (Kd.S_mono (Kd.S_far (p := ⟨gb684, 1, none⟩) (Kd.S_far (p := ⟨gb684, 0, none⟩) (Kd.S_types HO676.out BK684.out (by decide)) (fun _ hk => hk.2) (.slice Ao44 t678.length co44)) (fun _ hk => hk.2) (.slice Ao49 t681.length co49)) (fun _ h_ => h_.1))) (Kd.R_base ho0) hb); replace HO680 := Aside0.mk (Kd.R_below (by (with_reducible repeat (first | apply Kd.R_alloc | apply Kd.R_drewN | apply Kd.R_drew)); exact (Kd.R_mono (Kd.R_far (p := ⟨gb684, 1, none⟩) (Kd.R_far (p := ⟨gb684, 0, none⟩) (Kd.R_types HO680.out BK684.out (by decide)) (fun _ hk => hk.2) (.slice Ao44 t678.length co44)) (fun _ hk => hk.2) (.slice Ao49 t681.length co49)) (fun _ h_ => h_.1))) hb); replace HO683 := Aside0.mk (Kd.R_below (by (with_reducible repeat (first | apply Kd.R_alloc | apply Kd.R_drewN | apply Kd.R_drew)); exact (Kd.R_mono (Kd.R_far (p := ⟨gb684, 1, none⟩) (Kd.R_far (p := ⟨gb684, 0, none⟩) (Kd.R_types HO683.out BK684.out (by decide)) (fun _ hk => hk.2) (.slice Ao44 t678.length co44)) (fun _ hk => hk.2) (.slice Ao49 t681.length co49)) (fun _ h_ => h_.1))) hb); have HO687 := Aside0.mk (Kd.R_lower (Kd.R_new' ho0 (Kd.R_lt (by (with_reducible repeat (first | apply Kd.R_alloc | apply Kd.R_drewN | apply Kd.R_drew)); exact (Kd.R_mono (Kd.R_far (p := ⟨gb684, 1, none⟩) (Kd.R_far (p := ⟨gb684, 0, none⟩) (Kd.R_types HO670.out BK684.out (by decide)) (fun _ hk => hk.2) (.slice Ao44 t678.length co44)) (fun _ hk => hk.2) (.slice Ao49 t681.length co49)) (fun _ h_ => h_.1))))) (below_size Xi)); replace HO670 := Aside0.mk (Kd.R_elder' (by (with_reducible repeat (first | apply Kd.R_alloc | apply Kd.R_drewN | apply Kd.R_drew)); exact (Kd.R_mono (Kd.R_far (p := ⟨gb684, 1, none⟩) (Kd.R_far (p := ⟨gb684, 0, none⟩) (Kd.R_types HO670.out BK684.out (by decide)) (fun _ hk => hk.2) (.slice Ao44 t678.length co44)) (fun _ hk => hk.2) (.slice Ao49 t681.length co49)) (fun _ h_ => h_.1))) (Kd.R_base ho0) hb); replace BK653 := Aside0.mk (blk_below (g := gb653) (o := .cells #[.int .i64 a0_0, .int .i64 a0_1, .slice A0_2 l0_2.length c0_2] 24 (0, 0)) (by (with_reducible repeat (first | refine blk_drewN ?_ _ | refine blk_drew ?_ | refine blk_alloc ?_ _)); refine blk_far ?_ NB653_684.out _; (with_reducible repeat (first | refine blk_drewN ?_ _ | refine blk_drew ?_ | refine blk_alloc ?_ _)); refine blk_far ?_ NB653_684.out _; (with_reducible repeat (first | refine blk_drewN ?_ _ | refine blk_drew ?_ | refine blk_alloc ?_ _)); exact BK653.out) hb); replace BK654 := Aside0.mk (blk_below (g := gb654) (o := .cells #[.slice A1_0 l1_0.length c1_0, .slice A1_1 l1_1.length c1_1] 49 (0, 0)) (by (with_reducible repeat (first | refine blk_drewN ?_ _ | refine blk_drew ?_ | refine blk_alloc ?_ _)); refine blk_far ?_ NB654_684.out _; (with_reducible repeat (first | refine blk_drewN ?_ _ | refine blk_drew ?_ | refine blk_alloc ?_ _)); refine blk_far ?_ NB654_684.out _; (with_reducible repeat (first | refine blk_drewN ?_ _ | refine blk_drew ?_ | refine blk_alloc ?_ _)); exact BK654.out) hb); replace BK677 := Aside0.mk (blk_below (g := gb677) (o := .cells #[.int .i64 t672, .int .i64 t673, .slice Ao39 t674.length co39] 35 (0, 0)) (by (with_reducible repeat (first | refine blk_drewN ?_ _ | refine blk_drew ?_ | refine blk_alloc ?_ _)); refine blk_far ?_ NB677_684.out _; (with_reducible repeat (first | refine blk_drewN ?_ _ | refine blk_drew ?_ | refine blk_alloc ?_ _)); refine blk_far ?_ NB677_684.out _; (with_reducible repeat (first | refine blk_drewN ?_ _ | refine blk_drew ?_ | refine blk_alloc ?_ _)); exact BK677.out) hb); replace BK684 := Aside0.mk (blk_below (g := gb684) (o := .cells #[.slice Ao44 t678.length co44, .slice Ao49 t681.length co49] 53 (0, 0)) (by (with_reducible repeat (first | refine blk_drewN ?_ _ | refine blk_drew ?_ | refine blk_alloc ?_ _)); refine blk_put (cs := #[.slice Ao44 t678.length co44, .slice none 0 0]) ?_ 1 _ rfl; (with_reducible repeat (first | refine blk_drewN ?_ _ | refine blk_drew ?_ | refine blk_alloc ?_ _)); refine blk_put (cs := #[.slice none 0 0, .slice none 0 0]) ?_ 0 _ rfl; (with_reducible repeat (first | refine blk_drewN ?_ _ | refine blk_drew ?_ | refine blk_alloc ?_ _)); exact BK684.out) hb); replace HB := Aside0.mk (below_step Xi hb); clear hb; (try clear ho0)))
 (try simp only [XW.q0, XW.q1, XW.q2])
 go_cut [57] (fun v57 wc => ∃ (kq : Nat) (x57_23 : Bool), v57 = .bool x57_23 ∧ Aside0 (laws_FnExactBlockersOf.j0 kq a2 t668 t671 t685 t688 x57_23 a0_0 a0_1 l0_2 l1_0 l1_1 t672 t673 t674 t678 t681 = some true) ∧ Aside0 (kq ≤ k) ∧ Aside0 (Kd.R (Kd.int .i64) 3 wc w.heap.size (fun k_ => some k_ ≠ (v686 : Value).ownBlock) v669 t668) ∧ Aside0 (Kd.R (Kd.int .i64) 3 wc w.heap.size (fun k_ => some k_ ≠ (v669 : Value).ownBlock) v686 t685) ∧ Aside0 (Kd.S k113 113 wc w.heap.size (fun k_ => some k_ ≠ (v669 : Value).ownBlock ∧ some k_ ≠ (v686 : Value).ownBlock) (.slice Ao39 t674.length co39) t674) ∧ Aside0 (Kd.R k39 39 wc w.heap.size (fun k_ => some k_ ≠ ((.slice Ao49 t681.length co49) : Value).ownBlock) (.slice Ao44 t678.length co44) t678) ∧ Aside0 (Kd.R k39 39 wc w.heap.size (fun k_ => some k_ ≠ ((.slice Ao44 t678.length co44) : Value).ownBlock) (.slice Ao49 t681.length co49) t681) ∧ Aside0 (wc.heap[gb653]? = some (.cells #[.int .i64 a0_0, .int .i64 a0_1, (.slice A0_2 l0_2.length c0_2)] 24 (0, 0))) ∧ Aside0 (wc.heap[gb654]? = some (.cells #[(.slice A1_0 l1_0.length c1_0), (.slice A1_1 l1_1.length c1_1)] 49 (0, 0))) ∧ Aside0 (wc.heap[gb677]? = some (.cells #[.int .i64 t672, .int .i64 t673, (.slice Ao39 t674.length co39)] 35 (0, 0))) ∧ Aside0 (wc.heap[gb684]? = some (.cells #[(.slice Ao44 t678.length co44), (.slice Ao49 t681.length co49)] 53 (0, 0))) ∧ Aside0 (Below w.heap.size w wc))
 case first =>
  have H := HC24.out
  clear HC24
  obtain ⟨t689, A52, H⟩ := Xbi H
  try dsimp only at H
  by_cases c53 : t689 = true
  ·subst c53
   try rw [if_pos rfl] at H
   have H' := Aside0.mk H
   clear H
   obtain ⟨Ao54, co54, eo54⟩ := Kd.R_slice HO687.out
   subst eo54
   obtain ⟨Ao55, co55, eo55⟩ := Kd.R_slice HO670.out
   subst eo55
   go_wp2_with (first | ((with_reducible refine gate_callee (f := 14) rfl ?_); refine Xgo 51 Tryz.func14 #[.slice Ao54 t685.length co54, .slice Ao55 t668.length co55] ?_; (with_reducible refine (laws_eqIntS.calls k _ _ t685 _ _ t668 true _ ?side1 ?side2 ?side3 ?side4 A52.out).mono ?_); (case side1 => repeat (first | exact (Kd.R_reads' HO687.out).2.2 | (with_reducible first | refine Kd.C_alloc ?_ _ | refine Kd.C_drewN ?_ _ | refine Kd.C_drew ?_))); (case side2 => exact (Kd.R_reads' HO687.out).2.1); (case side3 => repeat (first | exact (Kd.R_reads' HO670.out).2.2 | (with_reducible first | refine Kd.C_alloc ?_ _ | refine Kd.C_drewN ?_ _ | refine Kd.C_drew ?_))); (case side4 => exact (Kd.R_reads' HO670.out).2.1); rintro e w' ⟨rfl, ⟨nd, rfl⟩⟩; refine ⟨_, rfl, ?_⟩))
   go_meet
   case rel => exact ⟨_, ((t688 != t671)), Xr, H', Xko, ⟨by (with_reducible repeat (first | apply Kd.R_alloc | apply Kd.R_drewN | apply Kd.R_drew)); exact Kd.R_mono HO670.out (fun _ hk => hk.2)⟩, ⟨by (with_reducible repeat (first | apply Kd.R_alloc | apply Kd.R_drewN | apply Kd.R_drew)); exact Kd.R_mono HO687.out (fun _ hk => hk.2)⟩, ⟨by (with_reducible repeat (first | apply Kd.S_alloc | apply Kd.S_drewN | apply Kd.S_drew)); exact Kd.S_mono HO676.out (fun _ hk => ⟨hk.1.2, hk.2⟩)⟩, ⟨by (with_reducible repeat (first | apply Kd.R_alloc | apply Kd.R_drewN | apply Kd.R_drew)); exact Kd.R_mono HO680.out (fun _ hk => hk.1.1)⟩, ⟨by (with_reducible repeat (first | apply Kd.R_alloc | apply Kd.R_drewN | apply Kd.R_drew)); exact Kd.R_mono HO683.out (fun _ hk => hk.1.1)⟩, BK653, BK654, BK677, BK684, ⟨Xi⟩⟩
  replace c53 := Bool.eq_false_iff.mpr c53
  subst c53
  try rw [if_neg (show ¬ (false = true) by decide)] at H
  have H' := Aside0.mk H
  clear H
  obtain ⟨Ao56, co56, eo56⟩ := Kd.R_slice HO687.out
  subst eo56
  obtain ⟨Ao57, co57, eo57⟩ := Kd.R_slice HO670.out
  subst eo57
  go_wp2_with (first | ((with_reducible refine gate_callee (f := 14) rfl ?_); refine Xgo 51 Tryz.func14 #[.slice Ao56 t685.length co56, .slice Ao57 t668.length co57] ?_; (with_reducible refine (laws_eqIntS.calls k _ _ t685 _ _ t668 false _ ?side1 ?side2 ?side3 ?side4 A52.out).mono ?_); (case side1 => repeat (first | exact (Kd.R_reads' HO687.out).2.2 | (with_reducible first | refine Kd.C_alloc ?_ _ | refine Kd.C_drewN ?_ _ | refine Kd.C_drew ?_))); (case side2 => exact (Kd.R_reads' HO687.out).2.1); (case side3 => repeat (first | exact (Kd.R_reads' HO670.out).2.2 | (with_reducible first | refine Kd.C_alloc ?_ _ | refine Kd.C_drewN ?_ _ | refine Kd.C_drew ?_))); (case side4 => exact (Kd.R_reads' HO670.out).2.1); rintro e w' ⟨rfl, ⟨nd, rfl⟩⟩; refine ⟨_, rfl, ?_⟩))
  go_meet
  case rel => exact ⟨_, (true), Xr, H', Xko, ⟨by (with_reducible repeat (first | apply Kd.R_alloc | apply Kd.R_drewN | apply Kd.R_drew)); exact Kd.R_mono HO670.out (fun _ hk => hk.2)⟩, ⟨by (with_reducible repeat (first | apply Kd.R_alloc | apply Kd.R_drewN | apply Kd.R_drew)); exact Kd.R_mono HO687.out (fun _ hk => hk.2)⟩, ⟨by (with_reducible repeat (first | apply Kd.S_alloc | apply Kd.S_drewN | apply Kd.S_drew)); exact Kd.S_mono HO676.out (fun _ hk => ⟨hk.1.2, hk.2⟩)⟩, ⟨by (with_reducible repeat (first | apply Kd.R_alloc | apply Kd.R_drewN | apply Kd.R_drew)); exact Kd.R_mono HO680.out (fun _ hk => hk.1.1)⟩, ⟨by (with_reducible repeat (first | apply Kd.R_alloc | apply Kd.R_drewN | apply Kd.R_drew)); exact Kd.R_mono HO683.out (fun _ hk => hk.1.1)⟩, BK653, BK654, BK677, BK684, ⟨Xi⟩⟩
 clear HC24
 (try clear c11); (try clear c11b0); (try clear c17); (try clear c17b0); (try clear hcz15_0); (try clear hcz15_1); (try clear hcz33_0); (try clear hcz33_1); (try clear hcz33_2); (try clear hcz38_0); (try clear hcz38_1); (try clear hcz38_2); (try clear hcz41_0); (try clear hcz41_1); (try clear hcz48_0); (try clear hcz48_1); (try clear hcz50_0); (try clear hcz50_1); (try clear hcz50_2); (try clear hcz9_0); (try clear hcz9_1); (try clear hcz9_2); (try clear hfz15_0); (try clear hfz15_1); (try clear hfz33_0); (try clear hfz33_1); (try clear hfz33_2); (try clear hfz38_0); (try clear hfz38_1); (try clear hfz38_2); (try clear hfz41_0); (try clear hfz41_1); (try clear hfz48_0); (try clear hfz48_1); (try clear hfz50_0); (try clear hfz50_1); (try clear hfz50_2); (try clear hfz9_0); (try clear hfz9_1); (try clear hfz9_2)
 (try clear HO_8); (try clear HO_12); (try clear HO_678002); (try clear HO_685000); (try clear HO_685001)
 obtain ⟨kq, x57_23, rfl, HA, HJ23, HO_8, HO_12, HO_678002, HO_685000, HO_685001, BK653, BK654, BK677, BK684, HB⟩ := hcut
 cases kq with | zero => cases HA.out | succ kj23 => ?_
 have H := HA.out
 clear HA
 simp only [laws_FnExactBlockersOf.j0] at H
 by_cases c58 : x57_23 = true
 ·subst c58
  try rw [if_pos rfl] at H
  cases H
 replace c58 := Bool.eq_false_iff.mpr c58
 subst c58
 try rw [if_neg (show ¬ (false = true) by decide)] at H
 replace H := Option.bind_eq_some_iff.mp H
 obtain ⟨⟨t690, t691, t692⟩, A590, H⟩ := H
 try dsimp only at H
 have A59 := Aside0.mk A590
 clear A590
 obtain ⟨t695, A60, H⟩ := Xbi H
 try dsimp only at H
 have HC61 := Aside0.mk H
 clear H
 try go_wp2_with (fail)
 replace HO_8 := Aside0.mk (Kd.R_drew HO_8.out)
 replace HO_12 := Aside0.mk (Kd.R_drew HO_12.out)
 replace HO_678002 := Aside0.mk (Kd.S_drew HO_678002.out)
 replace HO_685000 := Aside0.mk (Kd.R_drew HO_685000.out)
 replace HO_685001 := Aside0.mk (Kd.R_drew HO_685001.out)
 replace BK653 := Aside0.mk (blk_drew BK653.out)
 replace BK654 := Aside0.mk (blk_drew BK654.out)
 replace BK677 := Aside0.mk (blk_drew BK677.out)
 replace BK684 := Aside0.mk (blk_drew BK684.out)
 replace HB := Aside0.mk (below_drew1 HB.out)
 refine start_ (n := 5) (S := fun w' => w'.cell? ⟨gb677, 0, none⟩ = some (.int .i64 t672) ∧ w'.cell? ⟨gb677, 1, none⟩ = some (.int .i64 t673) ∧ w'.cell? ⟨gb677, 2, none⟩ = some (.slice Ao39 t674.length co39) ∧ w'.cell? ⟨gb653, 0, none⟩ = some (.int .i64 a0_0) ∧ w'.cell? ⟨gb653, 1, none⟩ = some (.int .i64 a0_1) ∧ w'.cell? ⟨gb653, 2, none⟩ = some (.slice A0_2 l0_2.length c0_2)) (ds := []) #[false, false, false, false, false] (by kernel_rfl) rfl rfl ⟨(blk_cell BK677.out 0).trans rfl, (blk_cell BK677.out 1).trans rfl, (blk_cell BK677.out 2).trans rfl, (blk_cell BK653.out 0).trans rfl, (blk_cell BK653.out 1).trans rfl, (blk_cell BK653.out 2).trans rfl⟩ (fun hHeld => ?_)
 generalize wc.drew = w62 at HO_8 HO_12 HO_678002 HO_685000 HO_685001 BK653 BK654 BK677 BK684 HB hHeld ⊢
 refine take_ (i := 0) (N := some 58) (v := ?_) (a' := ?_) #[true, false, false, false, false] rfl rfl (by kernel_rfl) (fun _ _ _ h => h) (Or.inl ⟨by rfl, ?_⟩) hHeld ?_ ?_
 rotate_left
 ·rintro w' ⟨s0, s1, s2, s3, s4, s5⟩
  go_simp
  with_reducible rfl
 rotate_left
 ·simp only [XW.q0, XW.q1, XW.q2, i64_w, i32_w]
  rfl
 refine take_ (i := 1) (N := some 59) (v := ?_) (a' := ?_) #[true, true, false, false, false] rfl rfl (by kernel_rfl) (fun _ _ _ h => h) (Or.inl ⟨by rfl, ?_⟩) hHeld ?_ ?_
 rotate_left
 ·rintro w' ⟨s0, s1, s2, s3, s4, s5⟩
  go_simp
  with_reducible rfl
 rotate_left
 ·simp only [XW.q0, XW.q1, XW.q2, i64_w, i32_w]
  rfl
 refine one_ (i := 2) (N := some 60) #[true, true, true, false, false] rfl rfl (by kernel_rfl) (by decide) (fun K hK => ?_)
 refine goes_ Tryz.func10 (by kernel_rfl) rfl #[.agg #[.int .i64 a0_0, .int .i64 a0_1, .slice A0_2 l0_2.length c0_2]] (by rfl) rfl rfl (by (try simp only [List.map_toArray, List.map_cons, List.map_nil]); first | done | rfl | (simp only [List.length_drop, List.length_take]; rfl)) ?_
 with_reducible refine (laws_toDoc.calls kj23 a0_0 a0_1 _ _ l0_2 t690 t691 t692 _ ?side1 ?side2 A59.out).mono ?_
 (case side1 => exact Xc HR0_2)
 (case side2 => exact HC0_2.out)
 rintro e w63 ⟨v693, rfl, ho0, hb⟩
 refine ⟨_, rfl, ?_⟩
 replace HO_685000 := Aside0.mk (Kd.R_below (Xq HO_685000) hb)
 replace HO_685001 := Aside0.mk (Kd.R_below (Xq HO_685001) hb)
 have HO694 := Aside0.mk (Kd.S_lower (Kd.S_new' (Kd.S_new' (Kd.S_new' ho0 (Kd.R_lt (Xq HO_8))) (Kd.R_lt (Xq HO_12))) (Kd.S_lt (Xq HO_678002))) (below_size Xi))
 replace HO_8 := Aside0.mk (Kd.R_below (Xq HO_8) hb)
 replace HO_12 := Aside0.mk (Kd.R_below (Xq HO_12) hb)
 replace HO_678002 := Aside0.mk (Kd.S_elder' (Xq HO_678002) (Kd.S_base ho0) hb)
 replace BK653 := Xbb BK653 hb
 replace BK654 := Xbb BK654 hb
 replace BK677 := Xbb BK677 hb
 replace BK684 := Xbb BK684 hb
 replace HB := Aside0.mk (below_step Xi hb)
 try clear hb
 try clear hb2
 try clear hk
 try clear hi
 try clear ho0
 obtain ⟨Ao64, co64, eo64⟩ := Kd.S_slice HO694.out
 (first | subst eo64 | (injection eo64 with f1_ f2_ f3_; have f4_ := f1_.symm; have f5_ := f3_.symm; clear f1_ f2_ f3_; subst f4_; subst f5_))
 refine hK.out _ _ ⟨(blk_cell BK677.out 0).trans rfl, (blk_cell BK677.out 1).trans rfl, (blk_cell BK677.out 2).trans rfl, (blk_cell BK653.out 0).trans rfl, (blk_cell BK653.out 1).trans rfl, (blk_cell BK653.out 2).trans rfl⟩ (fun hHeld => ?_)
 clear hK K
 refine Xno ?_
 refine one_ (i := 3) (N := some 61) #[true, true, true, true, false] rfl rfl (by kernel_rfl) (by decide) (fun K hK => ?_)
 refine goes_ Tryz.func15 (by kernel_rfl) rfl #[.agg #[.int .i64 t672, .int .i64 t673, .slice Ao39 t674.length co39], .agg #[.int .i64 t690, .int .i64 t691, .slice Ao64 t692.length co64]] (by rfl) rfl rfl (by (try simp only [List.map_toArray, List.map_cons, List.map_nil]); first | done | rfl | (simp only [List.length_drop, List.length_take]; rfl)) ?_
 with_reducible refine (laws_eqDoc.calls kj23 t672 t673 _ _ t674 t690 t691 _ _ t692 t695 _ ?side1 ?side2 ?side3 ?side4 A60.out).mono ?_
 (case side1 => repeat (first | exact (Kd.S_reads' HO_678002.out).2.2 | (with_reducible first | refine Kd.C_alloc ?_ _ | refine Kd.C_drewN ?_ _ | refine Kd.C_drew ?_)))
 (case side2 => exact (Kd.S_reads' HO_678002.out).2.1)
 (case side3 => repeat (first | exact (Kd.S_reads' HO694.out).2.2 | (with_reducible first | refine Kd.C_alloc ?_ _ | refine Kd.C_drewN ?_ _ | refine Kd.C_drew ?_)))
 (case side4 => exact (Kd.S_reads' HO694.out).2.1)
 rintro e w65 ⟨rfl, hb⟩
 refine ⟨_, rfl, ?_⟩
 replace HO_8 := Aside0.mk (Kd.R_below (Xq HO_8) hb)
 replace HO_12 := Aside0.mk (Kd.R_below (Xq HO_12) hb)
 replace HO_678002 := Aside0.mk (Kd.S_below (Xq HO_678002) hb)
 replace HO_685000 := Aside0.mk (Kd.R_below (Xq HO_685000) hb)
 replace HO_685001 := Aside0.mk (Kd.R_below (Xq HO_685001) hb)
 replace HO694 := Aside0.mk (Kd.S_below (Xq HO694) hb)
 replace BK653 := Xbb BK653 hb
 replace BK654 := Xbb BK654 hb
 replace BK677 := Xbb BK677 hb
 replace BK684 := Xbb BK684 hb
 replace HB := Aside0.mk (below_step Xi hb)
 try clear hb
 try clear hb2
 try clear hk
 try clear hi
 refine hK.out _ _ ⟨(blk_cell BK677.out 0).trans rfl, (blk_cell BK677.out 1).trans rfl, (blk_cell BK677.out 2).trans rfl, (blk_cell BK653.out 0).trans rfl, (blk_cell BK653.out 1).trans rfl, (blk_cell BK653.out 2).trans rfl⟩ (fun hHeld => ?_)
 clear hK K
 refine Xno ?_
 refine pure_ (i := 4) (N := some 62) (v := ?_) (a' := ?_) #[true, true, true, true, true] rfl rfl (by kernel_rfl) (fun _ _ _ h => h) (Or.inl ⟨by rfl, ?_⟩) ?_ ?_
 rotate_left
 ·intro w'
  go_simp
  with_reducible rfl
 rotate_left
 ·simp only [XW.q0, XW.q1, XW.q2, i64_w, i32_w]
  rfl
 refine done_ (by kernel_rfl) ?_
 go_upto_if 62 with (fail)
 have H := HC61.out
 clear HC61
 by_cases c66 : t695 = true
 ·subst c66
  try rw [if_pos rfl] at H
  replace H := Option.bind_eq_some_iff.mp H
  obtain ⟨⟨t696, t699⟩, A670, H⟩ := H
  try dsimp only at H
  have A67 := Aside0.mk A670
  clear A670
  obtain ⟨t702, A68, H⟩ := Xbi H
  try dsimp only at H
  have HC69 := Aside0.mk H
  clear H
  try go_wp2_with (fail)
  replace HO_8 := Aside0.mk (Kd.R_drew HO_8.out)
  replace HO_12 := Aside0.mk (Kd.R_drew HO_12.out)
  replace HO_678002 := Aside0.mk (Kd.S_drew HO_678002.out)
  replace HO_685000 := Aside0.mk (Kd.R_drew HO_685000.out)
  replace HO_685001 := Aside0.mk (Kd.R_drew HO_685001.out)
  replace HO694 := Aside0.mk (Kd.S_drew HO694.out)
  replace BK653 := Aside0.mk (blk_drew BK653.out)
  replace BK654 := Aside0.mk (blk_drew BK654.out)
  replace BK677 := Aside0.mk (blk_drew BK677.out)
  replace BK684 := Aside0.mk (blk_drew BK684.out)
  replace HB := Aside0.mk (below_drew1 HB.out)
  refine start_ (n := 5) (S := fun w' => w'.cell? ⟨gb684, 0, none⟩ = some (.slice Ao44 t678.length co44) ∧ w'.cell? ⟨gb684, 1, none⟩ = some (.slice Ao49 t681.length co49) ∧ w'.cell? ⟨gb654, 0, none⟩ = some (.slice A1_0 l1_0.length c1_0) ∧ w'.cell? ⟨gb654, 1, none⟩ = some (.slice A1_1 l1_1.length c1_1)) (ds := []) #[false, false, false, false, false] (by kernel_rfl) rfl rfl ⟨(blk_cell BK684.out 0).trans rfl, (blk_cell BK684.out 1).trans rfl, (blk_cell BK654.out 0).trans rfl, (blk_cell BK654.out 1).trans rfl⟩ (fun hHeld => ?_)
  generalize w65.drew = w70 at HO_8 HO_12 HO_678002 HO_685000 HO_685001 HO694 BK653 BK654 BK677 BK684 HB hHeld ⊢
  refine take_ (i := 0) (N := some 63) (v := ?_) (a' := ?_) #[true, false, false, false, false] rfl rfl (by kernel_rfl) (fun _ _ _ h => h) (Or.inl ⟨by rfl, ?_⟩) hHeld ?_ ?_
  rotate_left
  ·rintro w' ⟨s0, s1, s2, s3⟩
   go_simp
   with_reducible rfl
  rotate_left
  ·simp only [XW.q0, XW.q1, XW.q2, i64_w, i32_w]
   rfl
  refine take_ (i := 1) (N := some 64) (v := ?_) (a' := ?_) #[true, true, false, false, false] rfl rfl (by kernel_rfl) (fun _ _ _ h => h) (Or.inl ⟨by rfl, ?_⟩) hHeld ?_ ?_
  rotate_left
  ·rintro w' ⟨s0, s1, s2, s3⟩
   go_simp
   with_reducible rfl
  rotate_left
  ·simp only [XW.q0, XW.q1, XW.q2, i64_w, i32_w]
   rfl
  refine one_ (i := 2) (N := some 65) #[true, true, true, false, false] rfl rfl (by kernel_rfl) (by decide) (fun K hK => ?_)
  refine goes_ Tryz.func23 (by kernel_rfl) rfl #[.agg #[.slice A1_0 l1_0.length c1_0, .slice A1_1 l1_1.length c1_1]] (by rfl) rfl rfl (by (try simp only [List.map_toArray, List.map_cons, List.map_nil]); first | done | rfl | (simp only [List.length_drop, List.length_take]; rfl)) ?_
  with_reducible refine (laws_toTable.calls kj23 _ _ l1_0 _ _ l1_1 t696 t699 _ ?side1 ?side2 ?side3 ?side4 A67.out).mono ?_
  (case side1 => exact Xc HR1_0)
  (case side2 => exact HC1_0.out)
  (case side3 => exact Xc HR1_1)
  (case side4 => exact HC1_1.out)
  rintro e w71 ⟨v697, v700, rfl, ho0, ho1, hb⟩
  refine ⟨_, rfl, ?_⟩
  replace HO_8 := Aside0.mk (Kd.R_below (Xq HO_8) hb)
  replace HO_12 := Aside0.mk (Kd.R_below (Xq HO_12) hb)
  replace HO_678002 := Aside0.mk (Kd.S_below (Xq HO_678002) hb)
  replace HO694 := Aside0.mk (Kd.S_below (Xq HO694) hb)
  have HO698 := Aside0.mk (Kd.R_lower (Kd.R_new' (Kd.R_new' ho0 (Kd.R_lt (Xq HO_685000))) (Kd.R_lt (Xq HO_685001))) (below_size Xi))
  have HO701 := Aside0.mk (Kd.R_lower (Kd.R_new' (Kd.R_new' ho1 (Kd.R_lt (Xq HO_685000))) (Kd.R_lt (Xq HO_685001))) (below_size Xi))
  replace HO_685000 := Aside0.mk (Kd.R_mono (Kd.R_told (Kd.R_told (Kd.R_old (Xq HO_685000) hb) (Kd.R_base ho0)) (Kd.R_base ho1)) (fun _ h_ => h_.1))
  replace HO_685001 := Aside0.mk (Kd.R_mono (Kd.R_told (Kd.R_told (Kd.R_old (Xq HO_685001) hb) (Kd.R_base ho0)) (Kd.R_base ho1)) (fun _ h_ => h_.1))
  replace BK653 := Xbb BK653 hb
  replace BK654 := Xbb BK654 hb
  replace BK677 := Xbb BK677 hb
  replace BK684 := Xbb BK684 hb
  replace HB := Aside0.mk (below_step Xi hb)
  try clear hb
  try clear hb2
  try clear hk
  try clear hi
  try clear ho0
  try clear ho1
  obtain ⟨Ao72, co72, eo72⟩ := Kd.R_slice HO698.out
  (first | subst eo72 | (injection eo72 with f1_ f2_ f3_; have f4_ := f1_.symm; have f5_ := f3_.symm; clear f1_ f2_ f3_; subst f4_; subst f5_))
  obtain ⟨Ao73, co73, eo73⟩ := Kd.R_slice HO701.out
  (first | subst eo73 | (injection eo73 with f1_ f2_ f3_; have f4_ := f1_.symm; have f5_ := f3_.symm; clear f1_ f2_ f3_; subst f4_; subst f5_))
  refine hK.out _ _ ⟨(blk_cell BK684.out 0).trans rfl, (blk_cell BK684.out 1).trans rfl, (blk_cell BK654.out 0).trans rfl, (blk_cell BK654.out 1).trans rfl⟩ (fun hHeld => ?_)
  clear hK K
  refine Xno ?_
  refine one_ (i := 3) (N := some 66) #[true, true, true, true, false] rfl rfl (by kernel_rfl) (by decide) (fun K hK => ?_)
  refine goes_ Tryz.func25 (by kernel_rfl) rfl #[.agg #[.slice Ao44 t678.length co44, .slice Ao49 t681.length co49], .agg #[.slice Ao72 t696.length co72, .slice Ao73 t699.length co73]] (by rfl) rfl rfl (by (try simp only [List.map_toArray, List.map_cons, List.map_nil]); first | done | rfl | (simp only [List.length_drop, List.length_take]; rfl)) ?_
  with_reducible refine (laws_eqTable.calls kj23 _ _ t678 _ _ t681 _ _ t696 _ _ t699 t702 _ ?side1 ?side2 ?side3 ?side4 ?side5 ?side6 ?side7 ?side8 A68.out).mono ?_
  (case side1 => repeat (first | exact (Kd.R_reads' HO_685000.out).2.2 | (with_reducible first | refine Kd.C_alloc ?_ _ | refine Kd.C_drewN ?_ _ | refine Kd.C_drew ?_)))
  (case side2 => exact (Kd.R_reads' HO_685000.out).2.1)
  (case side3 => repeat (first | exact (Kd.R_reads' HO_685001.out).2.2 | (with_reducible first | refine Kd.C_alloc ?_ _ | refine Kd.C_drewN ?_ _ | refine Kd.C_drew ?_)))
  (case side4 => exact (Kd.R_reads' HO_685001.out).2.1)
  (case side5 => repeat (first | exact (Kd.R_reads' HO698.out).2.2 | (with_reducible first | refine Kd.C_alloc ?_ _ | refine Kd.C_drewN ?_ _ | refine Kd.C_drew ?_)))
  (case side6 => exact (Kd.R_reads' HO698.out).2.1)
  (case side7 => repeat (first | exact (Kd.R_reads' HO701.out).2.2 | (with_reducible first | refine Kd.C_alloc ?_ _ | refine Kd.C_drewN ?_ _ | refine Kd.C_drew ?_)))
  (case side8 => exact (Kd.R_reads' HO701.out).2.1)
  rintro e w74 ⟨rfl, hb⟩
  refine ⟨_, rfl, ?_⟩
  replace HO_8 := Aside0.mk (Kd.R_below (Xq HO_8) hb)
  replace HO_12 := Aside0.mk (Kd.R_below (Xq HO_12) hb)
  replace HO_678002 := Aside0.mk (Kd.S_below (Xq HO_678002) hb)
  replace HO_685000 := Aside0.mk (Kd.R_below (Xq HO_685000) hb)
  replace HO_685001 := Aside0.mk (Kd.R_below (Xq HO_685001) hb)
  replace HO694 := Aside0.mk (Kd.S_below (Xq HO694) hb)
  replace HO698 := Aside0.mk (Kd.R_below (Xq HO698) hb)
  replace HO701 := Aside0.mk (Kd.R_below (Xq HO701) hb)
  replace BK653 := Xbb BK653 hb
  replace BK654 := Xbb BK654 hb
  replace BK677 := Xbb BK677 hb
  replace BK684 := Xbb BK684 hb
  replace HB := Aside0.mk (below_step Xi hb)
  try clear hb
  try clear hb2
  try clear hk
  try clear hi
  refine hK.out _ _ ⟨(blk_cell BK684.out 0).trans rfl, (blk_cell BK684.out 1).trans rfl, (blk_cell BK654.out 0).trans rfl, (blk_cell BK654.out 1).trans rfl⟩ (fun hHeld => ?_)
  clear hK K
  refine Xno ?_
  refine pure_ (i := 4) (N := some 67) (v := ?_) (a' := ?_) #[true, true, true, true, true] rfl rfl (by kernel_rfl) (fun _ _ _ h => h) (Or.inl ⟨by rfl, ?_⟩) ?_ ?_
  rotate_left
  ·intro w'
   go_simp
   with_reducible rfl
  rotate_left
  ·simp only [XW.q0, XW.q1, XW.q2, i64_w, i32_w]
   rfl
  refine done_ (by kernel_rfl) ?_
  go_upto_if 67 with (fail)
  have H := HC69.out
  clear HC69
  by_cases c75 : t702 = true
  ·subst c75
   try rw [if_pos rfl] at H
   replace H := Option.bind_eq_some_iff.mp H
   obtain ⟨⟨t703, t704⟩, A760, H⟩ := H
   try dsimp only at H
   have A76 := Aside0.mk A760
   clear A760
   replace H := Option.bind_eq_some_iff.mp H
   obtain ⟨⟨t705, t706, t707⟩, A770, H⟩ := H
   try dsimp only at H
   have A77 := Aside0.mk A770
   clear A770
   have HC78 := Aside0.mk H
   clear H
   have hnb79 := NB677_653.out
   have hnc79 := NB653_677.out
   have hnb80 := NB677_654.out
   have hnc80 := NB654_677.out
   have hnb81 := NB677_684.out
   have hnc81 := NB684_677.out
   obtain ⟨hcz82_0, hcz82_1, hcz82_2⟩ := Xc3 BK677
   obtain ⟨hfz82_0, hfz82_1, hfz82_2⟩ := Xf3 BK677
   go_upto_region 21 with (first | ((with_reducible refine gate_callee (f := 17) rfl ?_); refine Xgo 70 Tryz.func17 #[.agg #[.int .i64 t672, .int .i64 t673, .slice Ao39 t674.length co39], .int .i64 1] ?_; (with_reducible refine (laws_markDoc.calls kj23 t672 t673 (fun k_ => ((((((((((some k_ ≠ (v669 : Value).ownBlock ∧ some k_ ≠ (v686 : Value).ownBlock) ∧ some k_ ≠ (.slice Ao64 t692.length co64 : Value).ownBlock) ∧ k_ ≠ gb653) ∧ k_ ≠ gb654) ∧ k_ ≠ gb677) ∧ k_ ≠ gb684) ∧ some k_ ≠ (.slice Ao44 t678.length co44 : Value).ownBlock) ∧ some k_ ≠ (.slice Ao49 t681.length co49 : Value).ownBlock) ∧ some k_ ≠ (.slice Ao72 t696.length co72 : Value).ownBlock) ∧ some k_ ≠ (.slice Ao73 t699.length co73 : Value).ownBlock)) (.slice Ao39 t674.length co39) t674 1 t703 t704 w _ ?side1 ?side2 A76.out).mono ?_); (case side1 => exact Xi); (case side2 => (with_reducible repeat (first | apply Kd.S_alloc | apply Kd.S_drewN | apply Kd.S_drew)); exact (Kd.S_apart' (Kd.S_apart' (Kd.S_apart' (Kd.S_apart' (Kd.S_types (Kd.S_types (Kd.S_types (Kd.S_types HO_678002.out BK653.out (by decide)) BK654.out (by decide)) BK677.out (by decide)) BK684.out (by decide)) (Kd.R_typed HO_685000.out) (by decide)) (Kd.R_typed HO_685001.out) (by decide)) (Kd.R_typed HO698.out) (by decide)) (Kd.R_typed HO701.out) (by decide))); rintro e w83 ⟨rfl, hy0, hb, hkp⟩; refine ⟨_, rfl, ?_⟩; replace HO_8 := Aside0.mk (Kd.R_mono (ok' := fun k_ => some k_ ≠ (v686 : Value).ownBlock) (XR.R_keptT rfl HO_8.out hkp (fun k_ hk_ hs_ => (hs_.1.1.1.1.1.1.1.1.1.1) hk_.1)) (fun k_ hk_ => hk_.1)); replace HO_12 := Aside0.mk (Kd.R_mono (ok' := fun k_ => some k_ ≠ (v669 : Value).ownBlock) (XR.R_keptT rfl HO_12.out hkp (fun k_ hk_ hs_ => (hs_.1.1.1.1.1.1.1.1.1.2) hk_.1)) (fun k_ hk_ => hk_.1)); replace HO_678002 := Aside0.mk (hy0); replace HO_685000 := Aside0.mk (Kd.R_mono (ok' := fun k_ => some k_ ≠ (.slice Ao49 t681.length co49 : Value).ownBlock ∧ some k_ ≠ (.slice Ao72 t696.length co72 : Value).ownBlock ∧ some k_ ≠ (.slice Ao73 t699.length co73 : Value).ownBlock) (XR.R_keptT rfl HO_685000.out hkp (fun k_ hk_ hs_ => (hs_.1.1.1.2) hk_.1)) (fun k_ hk_ => ⟨hk_.1.1.1, hk_.1.1.2, hk_.1.2⟩)); replace HO_685001 := Aside0.mk (Kd.R_mono (ok' := fun k_ => some k_ ≠ (.slice Ao44 t678.length co44 : Value).ownBlock ∧ some k_ ≠ (.slice Ao72 t696.length co72 : Value).ownBlock ∧ some k_ ≠ (.slice Ao73 t699.length co73 : Value).ownBlock) (XR.R_keptT rfl HO_685001.out hkp (fun k_ hk_ hs_ => (hs_.1.1.2) hk_.1)) (fun k_ hk_ => ⟨hk_.1.1.1, hk_.1.1.2, hk_.1.2⟩)); replace BK653 := Aside0.mk (blk_kept BK653.out hkp (fun hs_ => (hs_.1.1.1.1.1.1.1.2) rfl)); replace BK654 := Aside0.mk (blk_kept BK654.out hkp (fun hs_ => (hs_.1.1.1.1.1.1.2) rfl)); replace BK677 := Aside0.mk (blk_kept BK677.out hkp (fun hs_ => (hs_.1.1.1.1.1.2) rfl)); replace BK684 := Aside0.mk (blk_kept BK684.out hkp (fun hs_ => (hs_.1.1.1.1.2) rfl)); replace HO698 := Aside0.mk (Kd.R_mono (ok' := fun k_ => some k_ ≠ (.slice Ao44 t678.length co44 : Value).ownBlock ∧ some k_ ≠ (.slice Ao49 t681.length co49 : Value).ownBlock ∧ some k_ ≠ (.slice Ao73 t699.length co73 : Value).ownBlock) (XR.R_keptT rfl HO698.out hkp (fun k_ hk_ hs_ => (hs_.1.2) hk_.1)) (fun k_ hk_ => ⟨hk_.1.1.2, hk_.1.2, hk_.1.1.1⟩)); replace HO701 := Aside0.mk (Kd.R_mono (ok' := fun k_ => some k_ ≠ (.slice Ao44 t678.length co44 : Value).ownBlock ∧ some k_ ≠ (.slice Ao49 t681.length co49 : Value).ownBlock ∧ some k_ ≠ (.slice Ao72 t696.length co72 : Value).ownBlock) (XR.R_keptT rfl HO701.out hkp (fun k_ hk_ hs_ => (hs_.2) hk_.1)) (fun k_ hk_ => ⟨hk_.1.1.2, hk_.1.2, hk_.1.1.1⟩)); replace HB := Aside0.mk (hb); clear HO694; (try clear hb); (try clear hkp); (try clear hy0); have hnb84 := NB684_653.out; have hnc84 := NB653_684.out; have hnb85 := NB684_654.out; have hnc85 := NB654_684.out; obtain ⟨hcz86_0, hcz86_1⟩ := Xc2 BK684; obtain ⟨hfz86_0, hfz86_1⟩ := Xf2 BK684) | ((with_reducible refine gate_callee (f := 26) rfl ?_); refine Xgo 73 Tryz.func26 #[.agg #[.slice Ao44 t678.length co44, .slice Ao49 t681.length co49], .int .i64 t703] ?_; (with_reducible refine (laws_markTable.calls kj23 (fun k_ => some k_ = (.slice Ao44 t678.length co44 : Value).ownBlock) (.slice Ao44 t678.length co44) t678 (fun k_ => some k_ = (.slice Ao49 t681.length co49 : Value).ownBlock) (.slice Ao49 t681.length co49) t681 t703 t705 t706 t707 w _ ?side1 ?side2 ?side3 ?side4 ?side5 A77.out).mono ?_); (case side1 => exact Xi); (case side2 => exact Kd.R_tight rfl HO_685000.out); (case side3 => exact fun k_ e_ => (HO_685000.out.1 k_ e_.symm).1); (case side4 => exact Kd.R_tight rfl HO_685001.out); (case side5 => exact fun k_ e_ => (HO_685001.out.1 k_ e_.symm).1); rintro e w87 ⟨rfl, hy0, hy1, hb, hkp⟩; refine ⟨_, rfl, ?_⟩; replace HO_8 := Aside0.mk (Kd.R_mono (ok' := fun k_ => some k_ ≠ (v686 : Value).ownBlock) (Kd.R_keptB ((Kd.R_apart' (Kd.R_apart' HO_8.out (Kd.R_typed HO_685000.out) (by decide)) (Kd.R_typed HO_685001.out) (by decide))) hkp (fun k_ hk_ hs_ => Or.elim hs_ (fun e_ => (hk_.1.2) e_) (fun e_ => (hk_.2) e_))) (fun k_ hk_ => hk_.1.1.1)); replace HO_12 := Aside0.mk (Kd.R_mono (ok' := fun k_ => some k_ ≠ (v669 : Value).ownBlock) (Kd.R_keptB ((Kd.R_apart' (Kd.R_apart' HO_12.out (Kd.R_typed HO_685000.out) (by decide)) (Kd.R_typed HO_685001.out) (by decide))) hkp (fun k_ hk_ hs_ => Or.elim hs_ (fun e_ => (hk_.1.2) e_) (fun e_ => (hk_.2) e_))) (fun k_ hk_ => hk_.1.1.1)); replace HO_678002 := Aside0.mk (Kd.S_mono (ok' := fun k_ => some k_ ≠ (v669 : Value).ownBlock ∧ some k_ ≠ (v686 : Value).ownBlock ∧ some k_ ≠ (.slice Ao44 t678.length co44 : Value).ownBlock ∧ some k_ ≠ (.slice Ao49 t681.length co49 : Value).ownBlock ∧ some k_ ≠ (.slice Ao72 t696.length co72 : Value).ownBlock ∧ some k_ ≠ (.slice Ao73 t699.length co73 : Value).ownBlock ∧ k_ ≠ gb653 ∧ k_ ≠ gb654 ∧ k_ ≠ gb677 ∧ k_ ≠ gb684) (Kd.S_keptB (HO_678002.out) hkp (fun k_ hk_ hs_ => Or.elim hs_ (fun e_ => (hk_.1.1.1.2) e_) (fun e_ => (hk_.1.1.2) e_))) (fun k_ hk_ => ⟨hk_.1.1.1.1.1.1.1.1.1.1.1, hk_.1.1.1.1.1.1.1.1.1.1.2, hk_.1.1.1.1.2, hk_.1.1.1.2, hk_.1.1.2, hk_.1.2, hk_.1.1.1.1.1.1.1.1.2, hk_.1.1.1.1.1.1.1.2, hk_.1.1.1.1.1.1.2, hk_.1.1.1.1.1.2⟩)); replace BK653 := Aside0.mk (blk_kept BK653.out hkp (fun hs_ => Or.elim hs_ (fun e_ => (fun e_ => (Kd.R_ne HO_685000.out BK653.out (by decide)) e_) e_) (fun e_ => (fun e_ => (Kd.R_ne HO_685001.out BK653.out (by decide)) e_) e_))); replace BK654 := Aside0.mk (blk_kept BK654.out hkp (fun hs_ => Or.elim hs_ (fun e_ => (fun e_ => (Kd.R_ne HO_685000.out BK654.out (by decide)) e_) e_) (fun e_ => (fun e_ => (Kd.R_ne HO_685001.out BK654.out (by decide)) e_) e_))); replace BK677 := Aside0.mk (blk_kept BK677.out hkp (fun hs_ => Or.elim hs_ (fun e_ => (fun e_ => (Kd.R_ne HO_685000.out BK677.out (by decide)) e_) e_) (fun e_ => (fun e_ => (Kd.R_ne HO_685001.out BK677.out (by decide)) e_) e_))); replace BK684 := Aside0.mk (blk_kept BK684.out hkp (fun hs_ => Or.elim hs_ (fun e_ => (fun e_ => (Kd.R_ne HO_685000.out BK684.out (by decide)) e_) e_) (fun e_ => (fun e_ => (Kd.R_ne HO_685001.out BK684.out (by decide)) e_) e_))); replace HO_685000 := Aside0.mk (Kd.R_reok rfl hy0 (fun k_ e_ => HO_685000.out.1 k_ e_)); replace HO_685001 := Aside0.mk (Kd.R_reok rfl hy1 (fun k_ e_ => HO_685001.out.1 k_ e_)); replace HO698 := Aside0.mk (Kd.R_mono (ok' := fun k_ => some k_ ≠ (.slice Ao44 t678.length co44 : Value).ownBlock ∧ some k_ ≠ (.slice Ao49 t681.length co49 : Value).ownBlock ∧ some k_ ≠ (.slice Ao73 t699.length co73 : Value).ownBlock) (Kd.R_keptB (HO698.out) hkp (fun k_ hk_ hs_ => Or.elim hs_ (fun e_ => (hk_.1) e_) (fun e_ => (hk_.2.1) e_))) (fun k_ hk_ => ⟨hk_.1.1, hk_.1.2.1, hk_.1.2.2⟩)); replace HO701 := Aside0.mk (Kd.R_mono (ok' := fun k_ => some k_ ≠ (.slice Ao44 t678.length co44 : Value).ownBlock ∧ some k_ ≠ (.slice Ao49 t681.length co49 : Value).ownBlock ∧ some k_ ≠ (.slice Ao72 t696.length co72 : Value).ownBlock) (Kd.R_keptB (HO701.out) hkp (fun k_ hk_ hs_ => Or.elim hs_ (fun e_ => (hk_.1) e_) (fun e_ => (hk_.2.1) e_))) (fun k_ hk_ => ⟨hk_.1.1, hk_.1.2.1, hk_.1.2.2⟩)); replace HB := Aside0.mk (hb); (try clear hb); (try clear hkp); (try clear hy0); (try clear hy1)))
   (try simp only [XW.q0, XW.q1, XW.q2])
   go_cut [86] (fun v86 wc => ∃ (kq : Nat) (x86_77 : Bool), v86 = .bool x86_77 ∧ Aside0 (laws_FnExactBlockersOf.j1 kq a2 t668 t671 t685 x86_77 a0_0 a0_1 l0_2 l1_0 l1_1 = some true) ∧ Aside0 (kq ≤ kj23) ∧ Aside0 (Kd.R (Kd.int .i64) 3 wc w.heap.size (fun k_ => some k_ ≠ (v686 : Value).ownBlock) v669 t668) ∧ Aside0 (Kd.R (Kd.int .i64) 3 wc w.heap.size (fun k_ => some k_ ≠ (v669 : Value).ownBlock) v686 t685) ∧ Aside0 (Kd.S k113 113 wc w.heap.size (fun k_ => some k_ ≠ (v669 : Value).ownBlock ∧ some k_ ≠ (v686 : Value).ownBlock) (.slice Ao39 t674.length co39) t704) ∧ Aside0 (Kd.R k39 39 wc w.heap.size (fun k_ => some k_ ≠ ((.slice Ao49 t681.length co49) : Value).ownBlock) (.slice Ao44 t678.length co44) t706) ∧ Aside0 (Kd.R k39 39 wc w.heap.size (fun k_ => some k_ ≠ ((.slice Ao44 t678.length co44) : Value).ownBlock) (.slice Ao49 t681.length co49) t707) ∧ Aside0 (wc.heap[gb653]? = some (.cells #[.int .i64 a0_0, .int .i64 a0_1, (.slice A0_2 l0_2.length c0_2)] 24 (0, 0))) ∧ Aside0 (wc.heap[gb654]? = some (.cells #[(.slice A1_0 l1_0.length c1_0), (.slice A1_1 l1_1.length c1_1)] 49 (0, 0))) ∧ Aside0 (wc.heap[gb677]? = some (.cells #[.int .i64 t672, .int .i64 t673, (.slice Ao39 t674.length co39)] 35 (0, 0))) ∧ Aside0 (wc.heap[gb684]? = some (.cells #[(.slice Ao44 t678.length co44), (.slice Ao49 t681.length co49)] 53 (0, 0))) ∧ Aside0 (Below w.heap.size w wc))
   case first =>
    have H := HC78.out
    clear HC78
    obtain ⟨c88b0, H⟩ | ⟨c88b0, H⟩ := Xit H
    ·(first | rw [c88b0] | (simp only [i64_w, i32_w]; rw [c88b0]) | skip)
     have H' := Aside0.mk H
     clear H
     go_wp2
     go_meet
     case rel => exact ⟨_, (true), Xr, H', ⟨by have := HJ23.out; first | omega | exact Nat.le_refl _⟩, (Xp' HO_8), (Xp' HO_12), ⟨by (with_reducible repeat (first | apply Kd.S_alloc | apply Kd.S_drewN | apply Kd.S_drew)); exact Kd.S_mono HO_678002.out (fun _ hk => ⟨hk.1, hk.2.1⟩)⟩, ⟨by (with_reducible repeat (first | apply Kd.R_alloc | apply Kd.R_drewN | apply Kd.R_drew)); exact Kd.R_mono HO_685000.out (fun _ hk => hk.1)⟩, ⟨by (with_reducible repeat (first | apply Kd.R_alloc | apply Kd.R_drewN | apply Kd.R_drew)); exact Kd.R_mono HO_685001.out (fun _ hk => hk.1)⟩, BK653, BK654, BK677, BK684, ⟨Xi⟩⟩
    (first | rw [c88b0] | (simp only [i64_w, i32_w]; rw [c88b0]) | skip)
    obtain ⟨t708, A89, H⟩ := Xbi H
    try dsimp only at H
    by_cases c90 : t708 = true
    ·subst c90
     try rw [if_pos rfl] at H
     have H' := Aside0.mk H
     clear H
     obtain ⟨Ao91, co91, eo91⟩ := Kd.R_slice HO_12.out
     subst eo91
     obtain ⟨Ao92, co92, eo92⟩ := Kd.R_slice HO_8.out
     subst eo92
     go_wp2_with (first | (go_at_call 14; (with_reducible refine (laws_eqIntS.calls kj23 _ _ t685 _ _ t668 true _ ?side1 ?side2 ?side3 ?side4 A89.out).mono ?_); (case side1 => repeat (first | exact (Kd.R_reads' HO_12.out).2.2 | (with_reducible first | refine Kd.C_alloc ?_ _ | refine Kd.C_drewN ?_ _ | refine Kd.C_drew ?_))); (case side2 => exact (Kd.R_reads' HO_12.out).2.1); (case side3 => repeat (first | exact (Kd.R_reads' HO_8.out).2.2 | (with_reducible first | refine Kd.C_alloc ?_ _ | refine Kd.C_drewN ?_ _ | refine Kd.C_drew ?_))); (case side4 => exact (Kd.R_reads' HO_8.out).2.1); rintro e w' ⟨rfl, ⟨nd, rfl⟩⟩))
     go_meet
     case rel => exact ⟨_, ((t688 != t671)), Xr, H', ⟨by have := HJ23.out; first | omega | exact Nat.le_refl _⟩, (Xp' HO_8), (Xp' HO_12), ⟨by (with_reducible repeat (first | apply Kd.S_alloc | apply Kd.S_drewN | apply Kd.S_drew)); exact Kd.S_mono HO_678002.out (fun _ hk => ⟨hk.1, hk.2.1⟩)⟩, ⟨by (with_reducible repeat (first | apply Kd.R_alloc | apply Kd.R_drewN | apply Kd.R_drew)); exact Kd.R_mono HO_685000.out (fun _ hk => hk.1)⟩, ⟨by (with_reducible repeat (first | apply Kd.R_alloc | apply Kd.R_drewN | apply Kd.R_drew)); exact Kd.R_mono HO_685001.out (fun _ hk => hk.1)⟩, BK653, BK654, BK677, BK684, ⟨Xi⟩⟩
    replace c90 := Bool.eq_false_iff.mpr c90
    subst c90
    try rw [if_neg (show ¬ (false = true) by decide)] at H
    have H' := Aside0.mk H
    clear H
    obtain ⟨Ao93, co93, eo93⟩ := Kd.R_slice HO_12.out
    subst eo93
    obtain ⟨Ao94, co94, eo94⟩ := Kd.R_slice HO_8.out
    subst eo94
    go_wp2_with (first | (go_at_call 14; (with_reducible refine (laws_eqIntS.calls kj23 _ _ t685 _ _ t668 false _ ?side1 ?side2 ?side3 ?side4 A89.out).mono ?_); (case side1 => repeat (first | exact (Kd.R_reads' HO_12.out).2.2 | (with_reducible first | refine Kd.C_alloc ?_ _ | refine Kd.C_drewN ?_ _ | refine Kd.C_drew ?_))); (case side2 => exact (Kd.R_reads' HO_12.out).2.1); (case side3 => repeat (first | exact (Kd.R_reads' HO_8.out).2.2 | (with_reducible first | refine Kd.C_alloc ?_ _ | refine Kd.C_drewN ?_ _ | refine Kd.C_drew ?_))); (case side4 => exact (Kd.R_reads' HO_8.out).2.1); rintro e w' ⟨rfl, ⟨nd, rfl⟩⟩))
    go_meet
    case rel => exact ⟨_, (true), Xr, H', ⟨by have := HJ23.out; first | omega | exact Nat.le_refl _⟩, (Xp' HO_8), (Xp' HO_12), ⟨by (with_reducible repeat (first | apply Kd.S_alloc | apply Kd.S_drewN | apply Kd.S_drew)); exact Kd.S_mono HO_678002.out (fun _ hk => ⟨hk.1, hk.2.1⟩)⟩, ⟨by (with_reducible repeat (first | apply Kd.R_alloc | apply Kd.R_drewN | apply Kd.R_drew)); exact Kd.R_mono HO_685000.out (fun _ hk => hk.1)⟩, ⟨by (with_reducible repeat (first | apply Kd.R_alloc | apply Kd.R_drewN | apply Kd.R_drew)); exact Kd.R_mono HO_685001.out (fun _ hk => hk.1)⟩, BK653, BK654, BK677, BK684, ⟨Xi⟩⟩
   clear HC78
   (try clear c11); (try clear c11b0); (try clear c17); (try clear c17b0); (try clear c58); (try clear c66); (try clear c75); (try clear hcz15_0); (try clear hcz15_1); (try clear hcz33_0); (try clear hcz33_1); (try clear hcz33_2); (try clear hcz38_0); (try clear hcz38_1); (try clear hcz38_2); (try clear hcz41_0); (try clear hcz41_1); (try clear hcz48_0); (try clear hcz48_1); (try clear hcz50_0); (try clear hcz50_1); (try clear hcz50_2); (try clear hcz82_0); (try clear hcz82_1); (try clear hcz82_2); (try clear hcz86_0); (try clear hcz86_1); (try clear hcz9_0); (try clear hcz9_1); (try clear hcz9_2); (try clear hfz15_0); (try clear hfz15_1); (try clear hfz33_0); (try clear hfz33_1); (try clear hfz33_2); (try clear hfz38_0); (try clear hfz38_1); (try clear hfz38_2); (try clear hfz41_0); (try clear hfz41_1); (try clear hfz48_0); (try clear hfz48_1); (try clear hfz50_0); (try clear hfz50_1); (try clear hfz50_2); (try clear hfz82_0); (try clear hfz82_1); (try clear hfz82_2); (try clear hfz86_0); (try clear hfz86_1); (try clear hfz9_0); (try clear hfz9_1); (try clear hfz9_2)
   (try clear HO_8); (try clear HO_12); (try clear HO_678002); (try clear HO_685000); (try clear HO_685001)
   obtain ⟨kq, x86_77, rfl, HA, HJ77, HO_8, HO_12, HO_678002, HO_685000, HO_685001, BK653, BK654, BK677, BK684, HB⟩ := hcut
   have hl678002_77 := (Kd.S_reads' HO_678002.out).1
   rw [hl678002_77] at HO_678002
   (try simp only [hl678002_77])
   (try simp only [hl678002_77] at BK653)
   (try simp only [hl678002_77] at BK654)
   (try simp only [hl678002_77] at BK677)
   (try simp only [hl678002_77] at BK684)
   (try simp only [hl678002_77] at HO_8)
   (try simp only [hl678002_77] at HO_12)
   (try simp only [hl678002_77] at HO_685000)
   (try simp only [hl678002_77] at HO_685001)
   have hl685000_77 := (Kd.R_reads' HO_685000.out).1
   rw [hl685000_77] at HO_685000
   (try simp only [hl685000_77])
   (try simp only [hl685000_77] at BK653)
   (try simp only [hl685000_77] at BK654)
   (try simp only [hl685000_77] at BK677)
   (try simp only [hl685000_77] at BK684)
   (try simp only [hl685000_77] at HO_8)
   (try simp only [hl685000_77] at HO_12)
   (try simp only [hl685000_77] at HO_678002)
   (try simp only [hl685000_77] at HO_685001)
   have hl685001_77 := (Kd.R_reads' HO_685001.out).1
   rw [hl685001_77] at HO_685001
   (try simp only [hl685001_77])
   (try simp only [hl685001_77] at BK653)
   (try simp only [hl685001_77] at BK654)
   (try simp only [hl685001_77] at BK677)
   (try simp only [hl685001_77] at BK684)
   (try simp only [hl685001_77] at HO_8)
   (try simp only [hl685001_77] at HO_12)
   (try simp only [hl685001_77] at HO_678002)
   (try simp only [hl685001_77] at HO_685000)
   cases kq with | zero => cases HA.out | succ kj77 => ?_
   have H := HA.out
   clear HA
   simp only [laws_FnExactBlockersOf.j1] at H
   by_cases c95 : x86_77 = true
   ·subst c95
    try rw [if_pos rfl] at H
    cases H
   replace c95 := Bool.eq_false_iff.mpr c95
   subst c95
   try rw [if_neg (show ¬ (false = true) by decide)] at H
   replace H := Option.bind_eq_some_iff.mp H
   obtain ⟨⟨t709, t710⟩, A960, H⟩ := H
   try dsimp only at H
   have A96 := Aside0.mk A960
   clear A960
   obtain ⟨t711, A97, H⟩ := Xbi H
   try dsimp only at H
   have HC98 := Aside0.mk H
   clear H
   obtain ⟨Ao99, co99, eo99⟩ := Kd.R_slice HO_12.out
   subst eo99
   go_upto_if 94 with (first | ((with_reducible refine gate_callee (f := 19) rfl ?_); refine Xgo 89 Tryz.func19 #[.slice Ao99 t685.length co99, .int .i64 1] ?_; (with_reducible refine (laws_markIntS.calls kj77 (fun k_ => some k_ = (.slice Ao99 t685.length co99 : Value).ownBlock) (.slice Ao99 t685.length co99) t685 1 t709 t710 w _ ?side1 ?side2 A96.out).mono ?_); (case side1 => exact Xi); (case side2 => exact Kd.R_tight rfl HO_12.out); rintro e w100 ⟨rfl, hy0, hb, hkp⟩; refine ⟨_, rfl, ?_⟩; replace HO_8 := Aside0.mk (Kd.R_mono (ok' := fun k_ => some k_ ≠ (.slice Ao99 t685.length co99 : Value).ownBlock) (Kd.R_keptB (HO_8.out) hkp (fun k_ hk_ hs_ => (hk_) hs_)) (fun k_ hk_ => hk_.1)); replace HO_678002 := Aside0.mk (Kd.S_mono (ok' := fun k_ => some k_ ≠ (v669 : Value).ownBlock ∧ some k_ ≠ (.slice Ao99 t685.length co99 : Value).ownBlock) (Kd.S_keptB (HO_678002.out) hkp (fun k_ hk_ hs_ => (hk_.2) hs_)) (fun k_ hk_ => ⟨hk_.1.1, hk_.1.2⟩)); replace HO_685000 := Aside0.mk (Kd.R_mono (ok' := fun k_ => some k_ ≠ (.slice Ao49 t707.length co49 : Value).ownBlock) (Kd.R_keptB ((Kd.R_apart' HO_685000.out (Kd.R_typed HO_12.out) (by decide))) hkp (fun k_ hk_ hs_ => (hk_.2) hs_)) (fun k_ hk_ => hk_.1.1)); replace HO_685001 := Aside0.mk (Kd.R_mono (ok' := fun k_ => some k_ ≠ (.slice Ao44 t706.length co44 : Value).ownBlock) (Kd.R_keptB ((Kd.R_apart' HO_685001.out (Kd.R_typed HO_12.out) (by decide))) hkp (fun k_ hk_ hs_ => (hk_.2) hs_)) (fun k_ hk_ => hk_.1.1)); replace BK653 := Aside0.mk (blk_kept BK653.out hkp (fun hs_ => (fun e_ => (Kd.R_ne HO_12.out BK653.out (by decide)) e_) hs_)); replace BK654 := Aside0.mk (blk_kept BK654.out hkp (fun hs_ => (fun e_ => (Kd.R_ne HO_12.out BK654.out (by decide)) e_) hs_)); replace BK677 := Aside0.mk (blk_kept BK677.out hkp (fun hs_ => (fun e_ => (Kd.R_ne HO_12.out BK677.out (by decide)) e_) hs_)); replace BK684 := Aside0.mk (blk_kept BK684.out hkp (fun hs_ => (fun e_ => (Kd.R_ne HO_12.out BK684.out (by decide)) e_) hs_)); replace HO_12 := Aside0.mk (Kd.R_reok rfl hy0 (fun k_ e_ => HO_12.out.1 k_ e_)); replace HB := Aside0.mk (hb); (try clear hb); (try clear hkp); (try clear hy0)) | ((with_reducible refine gate_callee (f := 20) rfl ?_); refine goesL_ (some 92) rfl rfl Tryz.func20 (by kernel_rfl) rfl #[.slice Ao99 t710.length co99, .int .i64 1] rfl (by (try simp only [List.map_toArray, List.map_cons, List.map_nil]); first | done | (rw [show t710.length = t685.length from (Kd.R_reads' HO_12.out).1.symm] <;> rfl) | rfl | (simp only [List.length_drop, List.length_take]; rfl)) ?_; (with_reducible refine (laws_heldIntS.calls kj77 _ _ t710 1 t711 _ ?side1 ?side2 A97.out).mono ?_); (case side1 => repeat (first | exact (Kd.R_reads' HO_12.out).2.2 | (with_reducible first | refine Kd.C_alloc ?_ _ | refine Kd.C_drewN ?_ _ | refine Kd.C_drew ?_))); (case side2 => rw [show t710.length = t685.length from (Kd.R_reads' HO_12.out).1.symm]; exact (Kd.R_reads' HO_12.out).2.1); rintro e w' ⟨rfl, ⟨nd, rfl⟩⟩; refine ⟨_, rfl, ?_⟩))
   (try (rw [drewN_self w100]; generalize hq_ : World.drewN w100 _ = w100; have n0_ : Aside0 (Kd.R (Kd.int .i64) 3 w100 w.heap.size (fun k_ => some k_ ≠ (v669 : Value).ownBlock) (.slice Ao99 t685.length co99) t710) := ⟨by rw [← hq_]; exact (Xq HO_12)⟩; have n1_ : Aside0 (Kd.S k113 113 w100 w.heap.size (fun k_ => some k_ ≠ (v669 : Value).ownBlock ∧ some k_ ≠ (.slice Ao99 t685.length co99 : Value).ownBlock) (.slice Ao39 t704.length co39) t704) := ⟨by rw [← hq_]; exact (Xq HO_678002)⟩; have n2_ : Aside0 (Kd.R k39 39 w100 w.heap.size (fun k_ => some k_ ≠ (.slice Ao49 t707.length co49 : Value).ownBlock) (.slice Ao44 t706.length co44) t706) := ⟨by rw [← hq_]; exact (Xq HO_685000)⟩; have n3_ : Aside0 (Kd.R k39 39 w100 w.heap.size (fun k_ => some k_ ≠ (.slice Ao44 t706.length co44 : Value).ownBlock) (.slice Ao49 t707.length co49) t707) := ⟨by rw [← hq_]; exact (Xq HO_685001)⟩; have n4_ : Aside0 (Kd.R (Kd.int .i64) 3 w100 w.heap.size (fun k_ => some k_ ≠ (.slice Ao99 t685.length co99 : Value).ownBlock) v669 t668) := ⟨by rw [← hq_]; exact (Xq HO_8)⟩; have n5_ : Aside0 (w100.heap[gb653]? = some (.cells #[.int .i64 a0_0, .int .i64 a0_1, .slice A0_2 l0_2.length c0_2] 24 (0, 0))) := ⟨by rw [← hq_]; exact BK653.out⟩; have n6_ : Aside0 (w100.heap[gb654]? = some (.cells #[.slice A1_0 l1_0.length c1_0, .slice A1_1 l1_1.length c1_1] 49 (0, 0))) := ⟨by rw [← hq_]; exact BK654.out⟩; have n7_ : Aside0 (w100.heap[gb677]? = some (.cells #[.int .i64 t672, .int .i64 t673, .slice Ao39 t704.length co39] 35 (0, 0))) := ⟨by rw [← hq_]; exact BK677.out⟩; have n8_ : Aside0 (w100.heap[gb684]? = some (.cells #[.slice Ao44 t706.length co44, .slice Ao49 t707.length co49] 53 (0, 0))) := ⟨by rw [← hq_]; exact BK684.out⟩; have n9_ : Aside0 (Below w.heap.size w w100) := ⟨by rw [← hq_]; exact Xi⟩; clear HO_12 HO_678002 HO_685000 HO_685001 HO_8 BK653 BK654 BK677 BK684 HB hq_; have HO_12 := n0_; have HO_678002 := n1_; have HO_685000 := n2_; have HO_685001 := n3_; have HO_8 := n4_; have BK653 := n5_; have BK654 := n6_; have BK677 := n7_; have BK684 := n8_; have HB := n9_; clear n0_ n1_ n2_ n3_ n4_ n5_ n6_ n7_ n8_ n9_))
   have H := HC98.out
   clear HC98
   obtain ⟨c101b0, H⟩ | ⟨c101b0, H⟩ := Xit H
   ·(first | rw [c101b0] | (simp only [i64_w, i32_w]; rw [c101b0]) | skip)
    cases H
   (first | rw [c101b0] | (simp only [i64_w, i32_w]; rw [c101b0]) | skip)
   obtain ⟨c102, H⟩ | ⟨c102, H⟩ := Xiu H
   ·have c102b0 : (t711 == t709) = true := beq_iff_eq.mpr c102
    have c102b1 : (t711 != t709) = false := bne_eq_false_iff_eq.mpr c102
    clear c102
    replace H := Option.bind_eq_some_iff.mp H
    obtain ⟨⟨t712, t713, t714⟩, A1030, H⟩ := H
    try dsimp only at H
    have A103 := Aside0.mk A1030
    clear A1030
    replace H := Option.bind_eq_some_iff.mp H
    obtain ⟨⟨t717, t720⟩, A1040, H⟩ := H
    try dsimp only at H
    have A104 := Aside0.mk A1040
    clear A1040
    replace H := Option.bind_eq_some_iff.mp H
    obtain ⟨⟨t723, t726⟩, A1050, H⟩ := H
    try dsimp only at H
    have A105 := Aside0.mk A1050
    clear A1050
    have HC106 := Aside0.mk H
    clear H
    try go_wp2
    replace HO_8 := Aside0.mk (Kd.R_drew HO_8.out)
    replace HO_12 := Aside0.mk (Kd.R_drew HO_12.out)
    replace HO_678002 := Aside0.mk (Kd.S_drew HO_678002.out)
    replace HO_685000 := Aside0.mk (Kd.R_drew HO_685000.out)
    replace HO_685001 := Aside0.mk (Kd.R_drew HO_685001.out)
    replace BK653 := Aside0.mk (blk_drew BK653.out)
    replace BK654 := Aside0.mk (blk_drew BK654.out)
    replace BK677 := Aside0.mk (blk_drew BK677.out)
    replace BK684 := Aside0.mk (blk_drew BK684.out)
    replace HB := Aside0.mk (below_drew1 HB.out)
    refine start_ (n := 11) (S := fun w' => w'.cell? ⟨gb653, 0, none⟩ = some (.int .i64 a0_0) ∧ w'.cell? ⟨gb653, 1, none⟩ = some (.int .i64 a0_1) ∧ w'.cell? ⟨gb653, 2, none⟩ = some (.slice A0_2 l0_2.length c0_2) ∧ w'.cell? ⟨gb654, 0, none⟩ = some (.slice A1_0 l1_0.length c1_0) ∧ w'.cell? ⟨gb654, 1, none⟩ = some (.slice A1_1 l1_1.length c1_1)) (ds := []) #[false, false, false, false, false, false, false, false, false, false, false] (by kernel_rfl) rfl rfl ⟨(blk_cell BK653.out 0).trans rfl, (blk_cell BK653.out 1).trans rfl, (blk_cell BK653.out 2).trans rfl, (blk_cell BK654.out 0).trans rfl, (blk_cell BK654.out 1).trans rfl⟩ (fun hHeld => ?_); refine with_tabW laws_FnExactBlockersOf.tab31 laws_FnExactBlockersOf.bits31 (fun HT_ HW_ => ?_)
    generalize w100.drew = w107 at HO_8 HO_12 HO_678002 HO_685000 HO_685001 BK653 BK654 BK677 BK684 HB hHeld ⊢
    refine Xpu 4 103 (XW.bs 11 16) HT_.out ?_
    refine Xta 0 99 (XW.bs 11 17) HT_.out HW_.out hHeld ?_
    refine Xta 2 101 (XW.bs 11 21) HT_.out HW_.out hHeld ?_
    refine one_ (i := 1) (N := some 100) (XW.bs 11 23) rfl rfl (one_of HT_.out (by kernel_rfl)) (by decide) (fun K hK => ?_)
    refine goes_ Tryz.func10 (by kernel_rfl) rfl #[.agg #[.int .i64 a0_0, .int .i64 a0_1, .slice A0_2 l0_2.length c0_2]] (by rfl) rfl rfl (by (try simp only [List.map_toArray, List.map_cons, List.map_nil]); first | done | rfl | (simp only [List.length_drop, List.length_take]; rfl)) ?_
    with_reducible refine (laws_toDoc.calls kj77 a0_0 a0_1 _ _ l0_2 t712 t713 t714 _ ?side1 ?side2 A103.out).mono ?_
    (case side1 => exact Xc HR0_2)
    (case side2 => exact HC0_2.out)
    rintro e w108 ⟨v715, rfl, ho0, hb⟩
    refine ⟨_, rfl, ?_⟩
    replace HO_685000 := Aside0.mk (Kd.R_below (Xq HO_685000) hb)
    replace HO_685001 := Aside0.mk (Kd.R_below (Xq HO_685001) hb)
    have HO716 := Aside0.mk (Kd.S_lower (Kd.S_new' (Kd.S_new' (Kd.S_new' ho0 (Kd.R_lt (Xq HO_8))) (Kd.R_lt (Xq HO_12))) (Kd.S_lt (Xq HO_678002))) (below_size Xi))
    replace HO_8 := Aside0.mk (Kd.R_below (Xq HO_8) hb)
    replace HO_12 := Aside0.mk (Kd.R_below (Xq HO_12) hb)
    replace HO_678002 := Aside0.mk (Kd.S_elder' (Xq HO_678002) (Kd.S_base ho0) hb)
    replace BK653 := Xbb BK653 hb
    replace BK654 := Xbb BK654 hb
    replace BK677 := Xbb BK677 hb
    replace BK684 := Xbb BK684 hb
    replace HB := Aside0.mk (below_step Xi hb)
    try clear hb
    try clear hb2
    try clear hk
    try clear hi
    try clear ho0
    refine hK.out _ _ ⟨(blk_cell BK653.out 0).trans rfl, (blk_cell BK653.out 1).trans rfl, (blk_cell BK653.out 2).trans rfl, (blk_cell BK654.out 0).trans rfl, (blk_cell BK654.out 1).trans rfl⟩ (fun hHeld => ?_)
    clear hK K
    refine Xno ?_
    refine one_ (i := 3) (N := some 102) (XW.bs 11 31) rfl rfl (one_of HT_.out (by kernel_rfl)) (by decide) (fun K hK => ?_)
    refine goes_ Tryz.func23 (by kernel_rfl) rfl #[.agg #[.slice A1_0 l1_0.length c1_0, .slice A1_1 l1_1.length c1_1]] (by rfl) rfl rfl (by (try simp only [List.map_toArray, List.map_cons, List.map_nil]); first | done | rfl | (simp only [List.length_drop, List.length_take]; rfl)) ?_
    with_reducible refine (laws_toTable.calls kj77 _ _ l1_0 _ _ l1_1 t717 t720 _ ?side1 ?side2 ?side3 ?side4 A104.out).mono ?_
    (case side1 => exact Xc HR1_0)
    (case side2 => exact HC1_0.out)
    (case side3 => exact Xc HR1_1)
    (case side4 => exact HC1_1.out)
    rintro e w109 ⟨v718, v721, rfl, ho0, ho1, hb⟩
    refine ⟨_, rfl, ?_⟩
    replace HO_8 := Aside0.mk (Kd.R_below (Xq HO_8) hb)
    replace HO_12 := Aside0.mk (Kd.R_below (Xq HO_12) hb)
    replace HO_678002 := Aside0.mk (Kd.S_below (Xq HO_678002) hb)
    replace HO716 := Aside0.mk (Kd.S_below (Xq HO716) hb)
    have HO719 := Aside0.mk (Kd.R_lower (Kd.R_new' (Kd.R_new' ho0 (Kd.R_lt (Xq HO_685000))) (Kd.R_lt (Xq HO_685001))) (below_size Xi))
    have HO722 := Aside0.mk (Kd.R_lower (Kd.R_new' (Kd.R_new' ho1 (Kd.R_lt (Xq HO_685000))) (Kd.R_lt (Xq HO_685001))) (below_size Xi))
    replace HO_685000 := Aside0.mk (Kd.R_mono (Kd.R_told (Kd.R_told (Kd.R_old (Xq HO_685000) hb) (Kd.R_base ho0)) (Kd.R_base ho1)) (fun _ h_ => h_.1))
    replace HO_685001 := Aside0.mk (Kd.R_mono (Kd.R_told (Kd.R_told (Kd.R_old (Xq HO_685001) hb) (Kd.R_base ho0)) (Kd.R_base ho1)) (fun _ h_ => h_.1))
    replace BK653 := Xbb BK653 hb
    replace BK654 := Xbb BK654 hb
    replace BK677 := Xbb BK677 hb
    replace BK684 := Xbb BK684 hb
    replace HB := Aside0.mk (below_step Xi hb)
    try clear hb
    try clear hb2
    try clear hk
    try clear hi
    try clear ho0
    try clear ho1
    obtain ⟨Ao110, co110, eo110⟩ := Kd.S_slice HO716.out
    (first | subst eo110 | (injection eo110 with f1_ f2_ f3_; have f4_ := f1_.symm; have f5_ := f3_.symm; clear f1_ f2_ f3_; subst f4_; subst f5_))
    obtain ⟨Ao111, co111, eo111⟩ := Kd.R_slice HO719.out
    (first | subst eo111 | (injection eo111 with f1_ f2_ f3_; have f4_ := f1_.symm; have f5_ := f3_.symm; clear f1_ f2_ f3_; subst f4_; subst f5_))
    obtain ⟨Ao112, co112, eo112⟩ := Kd.R_slice HO722.out
    (first | subst eo112 | (injection eo112 with f1_ f2_ f3_; have f4_ := f1_.symm; have f5_ := f3_.symm; clear f1_ f2_ f3_; subst f4_; subst f5_))
    refine hK.out _ _ ⟨(blk_cell BK653.out 0).trans rfl, (blk_cell BK653.out 1).trans rfl, (blk_cell BK653.out 2).trans rfl, (blk_cell BK654.out 0).trans rfl, (blk_cell BK654.out 1).trans rfl⟩ (fun hHeld => ?_)
    clear hK K
    refine Xno ?_
    refine one_ (i := 5) (N := some 104) (XW.bs 11 63) rfl rfl (one_of HT_.out (by kernel_rfl)) (by decide) (fun K hK => ?_)
    refine goes_ Tryz.func24 (by kernel_rfl) rfl #[.agg #[.int .i64 t712, .int .i64 t713, .slice Ao110 t714.length co110], .agg #[.slice Ao111 t717.length co111, .slice Ao112 t720.length co112], .int .i64 a2] (by rfl) rfl rfl (by (try simp only [List.map_toArray, List.map_cons, List.map_nil]); first | done | rfl | (simp only [List.length_drop, List.length_take]; rfl)) ?_
    with_reducible refine (impl_BlockersOf.calls kj77 t712 t713 _ _ t714 _ _ t717 _ _ t720 a2 t723 t726 _ ?side1 ?side2 ?side3 ?side4 ?side5 ?side6 A105.out).mono ?_
    (case side1 => repeat (first | exact (Kd.S_reads' HO716.out).2.2 | (with_reducible first | refine Kd.C_alloc ?_ _ | refine Kd.C_drewN ?_ _ | refine Kd.C_drew ?_)))
    (case side2 => exact (Kd.S_reads' HO716.out).2.1)
    (case side3 => repeat (first | exact (Kd.R_reads' HO719.out).2.2 | (with_reducible first | refine Kd.C_alloc ?_ _ | refine Kd.C_drewN ?_ _ | refine Kd.C_drew ?_)))
    (case side4 => exact (Kd.R_reads' HO719.out).2.1)
    (case side5 => repeat (first | exact (Kd.R_reads' HO722.out).2.2 | (with_reducible first | refine Kd.C_alloc ?_ _ | refine Kd.C_drewN ?_ _ | refine Kd.C_drew ?_)))
    (case side6 => exact (Kd.R_reads' HO722.out).2.1)
    rintro e w113 ⟨v724, rfl, ho0, hb⟩
    refine ⟨_, rfl, ?_⟩
    replace HO_678002 := Aside0.mk (Kd.S_elder' (Xq HO_678002) (Kd.R_base ho0) hb)
    replace HO_685000 := Aside0.mk (Kd.R_below (Xq HO_685000) hb)
    replace HO_685001 := Aside0.mk (Kd.R_below (Xq HO_685001) hb)
    replace HO716 := Aside0.mk (Kd.S_elder' (Xq HO716) (Kd.R_base ho0) hb)
    replace HO719 := Aside0.mk (Kd.R_below (Xq HO719) hb)
    replace HO722 := Aside0.mk (Kd.R_below (Xq HO722) hb)
    have HO725 := Aside0.mk (Kd.R_lower (Kd.R_new' (Kd.R_new' ho0 (Kd.R_lt (Xq HO_8))) (Kd.R_lt (Xq HO_12))) (below_size Xi))
    replace HO_8 := Aside0.mk (Kd.R_elder' (Xq HO_8) (Kd.R_base ho0) hb)
    replace HO_12 := Aside0.mk (Kd.R_elder' (Xq HO_12) (Kd.R_base ho0) hb)
    replace BK653 := Xbb BK653 hb
    replace BK654 := Xbb BK654 hb
    replace BK677 := Xbb BK677 hb
    replace BK684 := Xbb BK684 hb
    replace HB := Aside0.mk (below_step Xi hb)
    try clear hb
    try clear hb2
    try clear hk
    try clear hi
    try clear ho0
    refine hK.out _ _ ⟨(blk_cell BK653.out 0).trans rfl, (blk_cell BK653.out 1).trans rfl, (blk_cell BK653.out 2).trans rfl, (blk_cell BK654.out 0).trans rfl, (blk_cell BK654.out 1).trans rfl⟩ (fun hHeld => ?_)
    clear hK K
    refine Xno ?_
    refine Xpu 6 98 (XW.bs 11 127) HT_.out ?_
    refine Xpu 7 105 (XW.bs 11 255) HT_.out ?_
    refine Xpu 8 106 (XW.bs 11 511) HT_.out ?_
    refine Xpu 9 17 (XW.bs 11 1023) HT_.out ?_
    refine Xpu 10 18 (XW.bs 11 2047) HT_.out ?_
    refine done_ (done_of HT_.out (by kernel_rfl)) ?_
    go_upto_region 32 with (fail)
    go_cut [115] (fun v115 wc => ∃ (kq : Nat) (x115_105 : Bool), v115 = .bool x115_105 ∧ Aside0 (laws_FnExactBlockersOf.j2 kq t710 t709 x115_105 = some true) ∧ Aside0 (kq ≤ kj77) ∧ Aside0 (Kd.R (Kd.int .i64) 3 wc w.heap.size (fun _ => True) (.slice Ao99 t685.length co99) t710) ∧ Aside0 (Kd.S k113 113 wc w.heap.size (fun k_ => some k_ ≠ ((.slice Ao99 t685.length co99) : Value).ownBlock) (.slice Ao39 t704.length co39) t704) ∧ Aside0 (Kd.R k39 39 wc w.heap.size (fun k_ => some k_ ≠ ((.slice Ao49 t707.length co49) : Value).ownBlock) (.slice Ao44 t706.length co44) t706) ∧ Aside0 (Kd.R k39 39 wc w.heap.size (fun k_ => some k_ ≠ ((.slice Ao44 t706.length co44) : Value).ownBlock) (.slice Ao49 t707.length co49) t707) ∧ Aside0 (wc.heap[gb653]? = some (.cells #[.int .i64 a0_0, .int .i64 a0_1, (.slice A0_2 l0_2.length c0_2)] 24 (0, 0))) ∧ Aside0 (wc.heap[gb654]? = some (.cells #[(.slice A1_0 l1_0.length c1_0), (.slice A1_1 l1_1.length c1_1)] 49 (0, 0))) ∧ Aside0 (wc.heap[gb677]? = some (.cells #[.int .i64 t672, .int .i64 t673, (.slice Ao39 t704.length co39)] 35 (0, 0))) ∧ Aside0 (wc.heap[gb684]? = some (.cells #[(.slice Ao44 t706.length co44), (.slice Ao49 t707.length co49)] 53 (0, 0))) ∧ Aside0 (Below w.heap.size w wc))
    case first =>
     have H := HC106.out
     clear HC106
     obtain ⟨t727, A114, H⟩ := Xbi H
     try dsimp only at H
     by_cases c115 : t727 = true
     ·subst c115
      try rw [if_pos rfl] at H
      have H' := Aside0.mk H
      clear H
      obtain ⟨Ao116, co116, eo116⟩ := Kd.R_slice HO725.out
      subst eo116
      obtain ⟨Ao117, co117, eo117⟩ := Kd.R_slice HO_8.out
      subst eo117
      go_wp2_with (first | ((with_reducible refine gate_callee (f := 14) rfl ?_); refine Xgo 109 Tryz.func14 #[.slice Ao116 t723.length co116, .slice Ao117 t668.length co117] ?_; (with_reducible refine (laws_eqIntS.calls kj77 _ _ t723 _ _ t668 true _ ?side1 ?side2 ?side3 ?side4 A114.out).mono ?_); (case side1 => repeat (first | exact (Kd.R_reads' HO725.out).2.2 | (with_reducible first | refine Kd.C_alloc ?_ _ | refine Kd.C_drewN ?_ _ | refine Kd.C_drew ?_))); (case side2 => exact (Kd.R_reads' HO725.out).2.1); (case side3 => repeat (first | exact (Kd.R_reads' HO_8.out).2.2 | (with_reducible first | refine Kd.C_alloc ?_ _ | refine Kd.C_drewN ?_ _ | refine Kd.C_drew ?_))); (case side4 => exact (Kd.R_reads' HO_8.out).2.1); rintro e w' ⟨rfl, ⟨nd, rfl⟩⟩; refine ⟨_, rfl, ?_⟩))
      go_meet
      case rel => exact ⟨_, ((t726 != t671)), Xr, H', ⟨by have := HJ23.out; have := HJ77.out; first | omega | exact Nat.le_refl _⟩, ⟨by (try simp only [hl678002_77]); (try simp only [hl685000_77]); (try simp only [hl685001_77]); (with_reducible repeat (first | apply Kd.R_alloc | apply Kd.R_drewN | apply Kd.R_drew)); exact Kd.R_mono HO_12.out (fun _ hk => trivial)⟩, ⟨by (try simp only [hl678002_77]); (try simp only [hl685000_77]); (try simp only [hl685001_77]); (with_reducible repeat (first | apply Kd.S_alloc | apply Kd.S_drewN | apply Kd.S_drew)); exact Kd.S_mono HO_678002.out (fun _ hk => hk.1.1.2)⟩, ⟨by (try simp only [hl678002_77]); (try simp only [hl685000_77]); (try simp only [hl685001_77]); (with_reducible repeat (first | apply Kd.R_alloc | apply Kd.R_drewN | apply Kd.R_drew)); exact Kd.R_mono HO_685000.out (fun _ hk => hk.1.1)⟩, ⟨by (try simp only [hl678002_77]); (try simp only [hl685000_77]); (try simp only [hl685001_77]); (with_reducible repeat (first | apply Kd.R_alloc | apply Kd.R_drewN | apply Kd.R_drew)); exact Kd.R_mono HO_685001.out (fun _ hk => hk.1.1)⟩, ⟨by (try simp only [hl678002_77]); (try simp only [hl685000_77]); (try simp only [hl685001_77]); exact BK653.out⟩, ⟨by (try simp only [hl678002_77]); (try simp only [hl685000_77]); (try simp only [hl685001_77]); exact BK654.out⟩, ⟨by (try simp only [hl678002_77]); (try simp only [hl685000_77]); (try simp only [hl685001_77]); exact BK677.out⟩, ⟨by (try simp only [hl678002_77]); (try simp only [hl685000_77]); (try simp only [hl685001_77]); exact BK684.out⟩, ⟨Xi⟩⟩
     replace c115 := Bool.eq_false_iff.mpr c115
     subst c115
     try rw [if_neg (show ¬ (false = true) by decide)] at H
     have H' := Aside0.mk H
     clear H
     obtain ⟨Ao118, co118, eo118⟩ := Kd.R_slice HO725.out
     subst eo118
     obtain ⟨Ao119, co119, eo119⟩ := Kd.R_slice HO_8.out
     subst eo119
     go_wp2_with (first | ((with_reducible refine gate_callee (f := 14) rfl ?_); refine Xgo 109 Tryz.func14 #[.slice Ao118 t723.length co118, .slice Ao119 t668.length co119] ?_; (with_reducible refine (laws_eqIntS.calls kj77 _ _ t723 _ _ t668 false _ ?side1 ?side2 ?side3 ?side4 A114.out).mono ?_); (case side1 => repeat (first | exact (Kd.R_reads' HO725.out).2.2 | (with_reducible first | refine Kd.C_alloc ?_ _ | refine Kd.C_drewN ?_ _ | refine Kd.C_drew ?_))); (case side2 => exact (Kd.R_reads' HO725.out).2.1); (case side3 => repeat (first | exact (Kd.R_reads' HO_8.out).2.2 | (with_reducible first | refine Kd.C_alloc ?_ _ | refine Kd.C_drewN ?_ _ | refine Kd.C_drew ?_))); (case side4 => exact (Kd.R_reads' HO_8.out).2.1); rintro e w' ⟨rfl, ⟨nd, rfl⟩⟩; refine ⟨_, rfl, ?_⟩))
     go_meet
     case rel => exact ⟨_, (true), Xr, H', ⟨by have := HJ23.out; have := HJ77.out; first | omega | exact Nat.le_refl _⟩, ⟨by (try simp only [hl678002_77]); (try simp only [hl685000_77]); (try simp only [hl685001_77]); (with_reducible repeat (first | apply Kd.R_alloc | apply Kd.R_drewN | apply Kd.R_drew)); exact Kd.R_mono HO_12.out (fun _ hk => trivial)⟩, ⟨by (try simp only [hl678002_77]); (try simp only [hl685000_77]); (try simp only [hl685001_77]); (with_reducible repeat (first | apply Kd.S_alloc | apply Kd.S_drewN | apply Kd.S_drew)); exact Kd.S_mono HO_678002.out (fun _ hk => hk.1.1.2)⟩, ⟨by (try simp only [hl678002_77]); (try simp only [hl685000_77]); (try simp only [hl685001_77]); (with_reducible repeat (first | apply Kd.R_alloc | apply Kd.R_drewN | apply Kd.R_drew)); exact Kd.R_mono HO_685000.out (fun _ hk => hk.1.1)⟩, ⟨by (try simp only [hl678002_77]); (try simp only [hl685000_77]); (try simp only [hl685001_77]); (with_reducible repeat (first | apply Kd.R_alloc | apply Kd.R_drewN | apply Kd.R_drew)); exact Kd.R_mono HO_685001.out (fun _ hk => hk.1.1)⟩, ⟨by (try simp only [hl678002_77]); (try simp only [hl685000_77]); (try simp only [hl685001_77]); exact BK653.out⟩, ⟨by (try simp only [hl678002_77]); (try simp only [hl685000_77]); (try simp only [hl685001_77]); exact BK654.out⟩, ⟨by (try simp only [hl678002_77]); (try simp only [hl685000_77]); (try simp only [hl685001_77]); exact BK677.out⟩, ⟨by (try simp only [hl678002_77]); (try simp only [hl685000_77]); (try simp only [hl685001_77]); exact BK684.out⟩, ⟨Xi⟩⟩
    clear HC106
    (try clear c11); (try clear c11b0); (try clear c17); (try clear c17b0); (try clear c58); (try clear c66); (try clear c75); (try clear c95); (try clear c101); (try clear c101b0); (try clear c102); (try clear c102b0); (try clear c102b1); (try clear hcz15_0); (try clear hcz15_1); (try clear hcz33_0); (try clear hcz33_1); (try clear hcz33_2); (try clear hcz38_0); (try clear hcz38_1); (try clear hcz38_2); (try clear hcz41_0); (try clear hcz41_1); (try clear hcz48_0); (try clear hcz48_1); (try clear hcz50_0); (try clear hcz50_1); (try clear hcz50_2); (try clear hcz82_0); (try clear hcz82_1); (try clear hcz82_2); (try clear hcz86_0); (try clear hcz86_1); (try clear hcz9_0); (try clear hcz9_1); (try clear hcz9_2); (try clear hfz15_0); (try clear hfz15_1); (try clear hfz33_0); (try clear hfz33_1); (try clear hfz33_2); (try clear hfz38_0); (try clear hfz38_1); (try clear hfz38_2); (try clear hfz41_0); (try clear hfz41_1); (try clear hfz48_0); (try clear hfz48_1); (try clear hfz50_0); (try clear hfz50_1); (try clear hfz50_2); (try clear hfz82_0); (try clear hfz82_1); (try clear hfz82_2); (try clear hfz86_0); (try clear hfz86_1); (try clear hfz9_0); (try clear hfz9_1); (try clear hfz9_2)
    (try clear HO_12); (try clear HO_678002); (try clear HO_685000); (try clear HO_685001)
    obtain ⟨kq, x115_105, rfl, HA, HJ105, HO_12, HO_678002, HO_685000, HO_685001, BK653, BK654, BK677, BK684, HB⟩ := hcut
    have hl12_105 := (Kd.R_reads' HO_12.out).1
    rw [hl12_105] at HO_12
    (try simp only [hl12_105])
    (try simp only [hl12_105] at BK653)
    (try simp only [hl12_105] at BK654)
    (try simp only [hl12_105] at BK677)
    (try simp only [hl12_105] at BK684)
    (try simp only [hl12_105] at HO_678002)
    (try simp only [hl12_105] at HO_685000)
    (try simp only [hl12_105] at HO_685001)
    cases kq with | zero => cases HA.out | succ kj105 => ?_
    have H := HA.out
    clear HA
    simp only [laws_FnExactBlockersOf.j2] at H
    by_cases c120 : x115_105 = true
    ·subst c120
     try rw [if_pos rfl] at H
     cases H
    replace c120 := Bool.eq_false_iff.mpr c120
    subst c120
    try rw [if_neg (show ¬ (false = true) by decide)] at H
    obtain ⟨t728, A121, H⟩ := Xbi H
    try dsimp only at H
    have HC122 := Aside0.mk H
    clear H
    go_upto_if 120 with (first | ((with_reducible refine gate_callee (f := 20) rfl ?_); refine Xgo 118 Tryz.func20 #[.slice Ao99 t710.length co99, .int .i64 1] ?_; (with_reducible refine (laws_heldIntS.calls kj105 _ _ t710 1 t728 _ ?side1 ?side2 A121.out).mono ?_); (case side1 => repeat (first | exact (Kd.R_reads' HO_12.out).2.2 | (with_reducible first | refine Kd.C_alloc ?_ _ | refine Kd.C_drewN ?_ _ | refine Kd.C_drew ?_))); (case side2 => exact (Kd.R_reads' HO_12.out).2.1); rintro e w' ⟨rfl, ⟨nd, rfl⟩⟩; refine ⟨_, rfl, ?_⟩))
    (try (rw [drewN_self wc]; generalize hq_ : World.drewN wc _ = wc; have n0_ : Aside0 (Kd.R (Kd.int .i64) 3 wc w.heap.size (fun _ => True) (.slice Ao99 t710.length co99) t710) := ⟨by rw [← hq_]; exact (Xq HO_12)⟩; have n1_ : Aside0 (Kd.S k113 113 wc w.heap.size (fun k_ => some k_ ≠ (.slice Ao99 t710.length co99 : Value).ownBlock) (.slice Ao39 t704.length co39) t704) := ⟨by rw [← hq_]; exact (Xq HO_678002)⟩; have n2_ : Aside0 (Kd.R k39 39 wc w.heap.size (fun k_ => some k_ ≠ (.slice Ao49 t707.length co49 : Value).ownBlock) (.slice Ao44 t706.length co44) t706) := ⟨by rw [← hq_]; exact (Xq HO_685000)⟩; have n3_ : Aside0 (Kd.R k39 39 wc w.heap.size (fun k_ => some k_ ≠ (.slice Ao44 t706.length co44 : Value).ownBlock) (.slice Ao49 t707.length co49) t707) := ⟨by rw [← hq_]; exact (Xq HO_685001)⟩; have n4_ : Aside0 (wc.heap[gb653]? = some (.cells #[.int .i64 a0_0, .int .i64 a0_1, .slice A0_2 l0_2.length c0_2] 24 (0, 0))) := ⟨by rw [← hq_]; exact BK653.out⟩; have n5_ : Aside0 (wc.heap[gb654]? = some (.cells #[.slice A1_0 l1_0.length c1_0, .slice A1_1 l1_1.length c1_1] 49 (0, 0))) := ⟨by rw [← hq_]; exact BK654.out⟩; have n6_ : Aside0 (wc.heap[gb677]? = some (.cells #[.int .i64 t672, .int .i64 t673, .slice Ao39 t704.length co39] 35 (0, 0))) := ⟨by rw [← hq_]; exact BK677.out⟩; have n7_ : Aside0 (wc.heap[gb684]? = some (.cells #[.slice Ao44 t706.length co44, .slice Ao49 t707.length co49] 53 (0, 0))) := ⟨by rw [← hq_]; exact BK684.out⟩; have n8_ : Aside0 (Below w.heap.size w wc) := ⟨by rw [← hq_]; exact Xi⟩; clear HO_12 HO_678002 HO_685000 HO_685001 BK653 BK654 BK677 BK684 HB hq_; have HO_12 := n0_; have HO_678002 := n1_; have HO_685000 := n2_; have HO_685001 := n3_; have BK653 := n4_; have BK654 := n5_; have BK677 := n6_; have BK684 := n7_; have HB := n8_; clear n0_ n1_ n2_ n3_ n4_ n5_ n6_ n7_ n8_))
    have H := HC122.out
    clear HC122
    obtain ⟨c123b0, H⟩ | ⟨c123b0, H⟩ := Xit H
    ·(first | rw [c123b0] | (simp only [i64_w, i32_w]; rw [c123b0]) | skip)
     cases H
    (first | rw [c123b0] | (simp only [i64_w, i32_w]; rw [c123b0]) | skip)
    obtain ⟨c124, H⟩ | ⟨c124, H⟩ := Xiu H
    ·have c124b0 : (t728 == t709) = true := beq_iff_eq.mpr c124
     have c124b1 : (t728 != t709) = false := bne_eq_false_iff_eq.mpr c124
     clear c124
     go_wp2
     go_ret
     exact ⟨Xe, Xi⟩
    have c124b0 : (t728 == t709) = false := beq_eq_false_iff_ne.mpr c124
    have c124b1 : (t728 != t709) = true := bne_iff_ne.mpr c124
    cases H
   have c102b0 : (t711 == t709) = false := beq_eq_false_iff_ne.mpr c102
   have c102b1 : (t711 != t709) = true := bne_iff_ne.mpr c102
   cases H
  replace c75 := Bool.eq_false_iff.mpr c75
  subst c75
  try rw [if_neg (show ¬ (false = true) by decide)] at H
  cases H
 replace c66 := Bool.eq_false_iff.mpr c66
 subst c66
 try rw [if_neg (show ¬ (false = true) by decide)] at H
 cases H
end Go.Proofs.YtahhgjkgfbppeaaGreat.XA
