/- Words and contracts of this claim. Conditions: each theorem's own premises. -/
import Derived.Test.YtahhgjkgfbppeaaGreatZ1
import Derived.Test.YtahhgjkgfbppeaaGreatZ9
import Derived.Test.YtahhgjkgfbppeaaGreatZ3
import Derived.Test.YtahhgjkgfbppeaaGreatZ8
section
namespace Go.Proofs.YtahhgjkgfbppeaaGreat.XA
set_option linter.unusedVariables false
open Go.RowKit Go.Proofs.YtahhgjkgfbppeaaGreatW.PrintWords Go.Proofs.YtahhgjkgfbppeaaGreatW.PrintLast Go.Proofs.YtahhgjkgfbppeaaGreatW.PrintMore
def laws_markNodeS.l0 : Nat → List S113 → Int → Int → Option (Int × List S113)
  | 0, _, _, _ => none
  | k + 1, xs_, n_, i_ => if i_ < (xs_.length : Int) then (if 0 ≤ i_ then ((laws_markText.f k (wrap64 ((wrap64 ((wrap64 (n_ + 1)) + 1)) + 1))).bind fun t_ => ((laws_markIntS.f k (rd_T113 xs_ i_).f4 (wrap64 ((wrap64 ((wrap64 ((wrap64 (n_ + 1)) + 1)) + 1)) + 1))).bind fun p_ => laws_markNodeS.l0 k (xs_.set i_.toNat ⟨n_, (wrap64 (n_ + 1)), (wrap64 ((wrap64 (n_ + 1)) + 1)), t_, p_.2⟩) p_.1 (wrap64 (i_ + 1)))) else none) else some (n_, xs_)
def laws_markNodeS.f (k : Nat) (l0 : List S113) (a1 : Int) : Option (Int × List S113) := laws_markNodeS.l0 k l0 a1 0
set_option maxHeartbeats 8000000 in
set_option maxRecDepth 100000 in
theorem laws_markNodeS.calls (k : Nat) (P_ : Nat → Prop) (u_ : Value) (l0 : List S113) (a1 r1 : Int) (r2 : List S113) (w0 w : World) (hB : Below w0.heap.size w0 w) (ho : Kd.S k113 113 w w0.heap.size P_ u_ l0) (h : laws_markNodeS.f k l0 a1 = some (r1, r2)) :
    Calls Tryz.prog 53 #[u_, .int .i64 a1] w fun e w' => e = .returned (.int .i64 r1) ∧ Kd.S k113 113 w' w0.heap.size P_ u_ r2 ∧ Below w0.heap.size w0 w' ∧ Kept w w' P_ := by
  have huN := Tryz.underlying113
  obtain ⟨A, c0, rfl⟩ := Kd.S_slice ho
  obtain ⟨N, hN⟩ : ∃ N, N = l0.length := ⟨_, rfl⟩
  rw [← hN] at ho ⊢
  have HN := Aside0.mk hN.symm
  have HS := Aside0.mk ho
  have HB := Aside0.mk hB
  have HK := Aside0.mk (Kept.refl w P_)
  have H' := Aside0.mk (show laws_markNodeS.l0 k l0 a1 0 = some (r1, r2) from h)
  clear ho hB h hN
  go_enter Tryz.func53, Tryz.ntmps53
  go_wp2
  go_loopg [1, 5] k (fun kq v1 v5 w' => ∃ (n_ i_ : Int) (xs_ : List S113), v1 = .int .i64 n_ ∧ v5 = .int .i64 i_ ∧ Aside0 (laws_markNodeS.l0 kq xs_ n_ i_ = some (r1, r2)) ∧ Aside0 (kq ≤ k) ∧ Aside0 (xs_.length = N) ∧ Aside0 (Kd.S k113 113 w' w0.heap.size P_ (.slice A N c0) xs_) ∧ Aside0 (Below w0.heap.size w0 w') ∧ Aside0 (Kept w w' P_))
  case atStart => exact ⟨a1, 0, l0, by first | rfl | (simp; done), by first | rfl | (simp; done), H', ⟨Nat.le_refl _⟩, HN, HS, HB, HK⟩
  case round =>
    clear H' HS HB HK HN
    obtain ⟨n_, i_, xs_, rfl, rfl, HA, HK1, HL, HS, HB, HK⟩ := hrel
    cases gk with
    | zero => cases HA.out
    | succ k1 =>
      have H := HA.out
      clear HA
      simp only [laws_markNodeS.l0] at H
      obtain ⟨c1, H⟩ | ⟨c1, H⟩ := XW.Xiu H
      · obtain ⟨c2, H⟩ := XW.Xif H
        obtain ⟨t_, HT, H⟩ := XW.Xbi H
        try dsimp only at H
        obtain ⟨⟨n2, ks'⟩, HI, H⟩ := XW.Xbi H
        try dsimp only at H
        have H' := Aside0.mk H
        clear H
        have hL := HL.out
        have hp : 0 < xs_.length := by omega
        obtain ⟨g, cap, e_, hg, _, _⟩ := Kd.S_form HS.out hp
        injection e_ with e1 e2 e3
        subst e1 e3
        clear e2
        have c1' : i_ < (N : Int) := by omega
        obtain ⟨oki, ce, hcl, hM, _, _, hoki, hH⟩ := Kd.S_elem HS.out z113 i_ c2 c1'
        obtain ⟨v4, rfl, hr⟩ := k113_openM hM
        replace hr : (Kd.int .i64).R 3 _ w0.heap.size oki v4 (rd_T113 xs_ i_).f4 := hr
        obtain ⟨A4, c4, rfl⟩ := Kd.R_slice hr
        have M0 := Aside0.mk (show XR.MS k113 113 w w0 _ P_ oki g N c0 xs_ i_ [.int .i64 (rd_T113 xs_ i_).f0, .int .i64 (rd_T113 xs_ i_).f1, .int .i64 (rd_T113 xs_ i_).f2, .string (rd_T113 xs_ i_).f3, (.slice A4 (rd_T113 xs_ i_).f4.length c4)] (.slice A4 (rd_T113 xs_ i_).f4.length c4) (rd_T113 xs_ i_).f4 from ⟨hH, hr, fun k hk => (hoki k hk).2, (Kd.S_R HS.out).1 g (by simp [Value.ownBlock]), hcl, c2, c1', HK.out, HB.out, hg⟩)
        have b0 : decide (i_ < (N : Int)) = true := decide_eq_true c1'
        have b1 : decide (0 ≤ i_) = true := decide_eq_true c2
        have b2 : decide (i_ < 0) = false := decide_eq_false (by omega)
        have p1 := eq_true c2
        have p2 := eq_true c1'
        clear c1 hp hcl hM hoki hH hr HS HB HK hL hg c1' c2
        obtain ⟨⟨hx0, hx1, hx2, hx3, hx4⟩, hf0, hf1, hf2, hf3⟩ := M0.out.five rfl
        go_wp2_with (first
          | ((with_reducible refine gate_store (t := 3) (p := 16) rfl ?_); refine XR.Xst 3 16 ⟨g, i_.toNat * 5, none⟩ (.int .i64 n_) ?_; intro wa hw; have M1 := Aside0.mk (M0.out.put 0 (by decide) (.int .i64 n_) rfl (off := i_.toNat * 5) rfl hw); clear hw hx0 hx1 hx2 hx3 hx4 hf0 hf1 hf2 hf3 M0; obtain ⟨⟨hx0, hx1, hx2, hx3, hx4⟩, hf0, hf1, hf2, hf3⟩ := M1.out.five rfl)
          | ((with_reducible refine gate_store (t := 3) (p := 23) rfl ?_); refine XR.Xst 3 23 ⟨g, i_.toNat * 5 + 1, none⟩ (.int .i64 (wrap64 (n_ + 1))) ?_; intro wb hw; have M2 := Aside0.mk (M1.out.put 1 (by decide) (.int .i64 (wrap64 (n_ + 1))) rfl (off := i_.toNat * 5 + 1) rfl hw); clear hw hx0 hx1 hx2 hx3 hx4 hf0 hf1 hf2 hf3 M1; obtain ⟨⟨hx0, hx1, hx2, hx3, hx4⟩, hf0, hf1, hf2, hf3⟩ := M2.out.five rfl)
          | ((with_reducible refine gate_store (t := 3) (p := 30) rfl ?_); refine XR.Xst 3 30 ⟨g, i_.toNat * 5 + 2, none⟩ (.int .i64 (wrap64 ((wrap64 (n_ + 1)) + 1))) ?_; intro wc hw; have M3 := Aside0.mk (M2.out.put 2 (by decide) (.int .i64 (wrap64 ((wrap64 (n_ + 1)) + 1))) rfl (off := i_.toNat * 5 + 2) rfl hw); clear hw hx0 hx1 hx2 hx3 hx4 hf0 hf1 hf2 hf3 M2; obtain ⟨⟨hx0, hx1, hx2, hx3, hx4⟩, hf0, hf1, hf2, hf3⟩ := M3.out.five rfl)
          | ((with_reducible refine gate_callee (f := 101) rfl ?_); refine XW.Xgo 36 Tryz.func101 #[.int .i64 (wrap64 ((wrap64 ((wrap64 (n_ + 1)) + 1)) + 1))] ?_; (with_reducible refine (laws_markText.calls k1 (wrap64 ((wrap64 ((wrap64 (n_ + 1)) + 1)) + 1)) t_ _ HT.out).mono ?_); rintro e wd ⟨rfl, hb⟩; refine ⟨_, rfl, ?_⟩; have M4 := Aside0.mk (M3.out.over hb); clear hb hx0 hx1 hx2 hx3 hx4 hf0 hf1 hf2 hf3 M3; obtain ⟨⟨hx0, hx1, hx2, hx3, hx4⟩, hf0, hf1, hf2, hf3⟩ := M4.out.five rfl)
          | ((with_reducible refine gate_store (t := 9) (p := 38) rfl ?_); refine XR.Xst 9 38 ⟨g, i_.toNat * 5 + 3, none⟩ (.string t_) ?_; intro we hw; have M5 := Aside0.mk (M4.out.put 3 (by decide) (.string t_) rfl (off := i_.toNat * 5 + 3) rfl hw); clear hw hx0 hx1 hx2 hx3 hx4 hf0 hf1 hf2 hf3 M4; obtain ⟨⟨hx0, hx1, hx2, hx3, hx4⟩, hf0, hf1, hf2, hf3⟩ := M5.out.five rfl)
          | ((with_reducible refine gate_callee (f := 19) rfl ?_); refine XW.Xgo 47 Tryz.func19 #[.slice A4 (rd_T113 xs_ i_).f4.length c4, .int .i64 (wrap64 ((wrap64 ((wrap64 ((wrap64 (n_ + 1)) + 1)) + 1)) + 1))] ?_; (with_reducible refine (laws_markIntS.calls k1 (fun k_ => oki k_) _ (rd_T113 xs_ i_).f4 (wrap64 ((wrap64 ((wrap64 ((wrap64 (n_ + 1)) + 1)) + 1)) + 1)) n2 ks' w0 _ M5.out.below M5.out.r HI.out).mono ?_); rintro e wf ⟨rfl, hr, hb, hk⟩; refine ⟨_, rfl, ?_⟩; have M6 := Aside0.mk (M5.out.kids hr hb hk); clear hr hb hk hx0 hx1 hx2 hx3 hx4 hf0 hf1 hf2 hf3 M5))
        go_roundg k1
        case measure => have := HK1.out; omega
        case rel => exact ⟨n2, wrap64 (i_ + 1), _, by first | rfl | (simp; done) | (simp [*]; done), by first | rfl | (simp; done) | (simp [*]; done), H', ⟨by have := HK1.out; omega⟩, ⟨by rw [List.length_set]; exact HL.out⟩, ⟨Kd.H_back M6.out.h (k113_mkM _ _ _ ⟨n_, (wrap64 (n_ + 1)), (wrap64 ((wrap64 (n_ + 1)) + 1)), t_, ks'⟩ M6.out.r) (fun _ hk => hk)⟩, ⟨M6.out.below⟩, ⟨M6.out.kept⟩⟩
      · simp only [Option.some.injEq, Prod.mk.injEq] at H
        obtain ⟨rfl, rfl⟩ := H
        have hL := HL.out
        have b0 : decide (i_ < (N : Int)) = false := decide_eq_false (by omega)
        clear hL c1
        go_wp2
        go_ret
        exact ⟨by first | rfl | (simp; done) | (simp [*]; done), HS.out, HB.out, HK.out⟩
def laws_markDoc.f (k : Nat) (a0_0 a0_1 : Int) (l0 : List S113) (a1 : Int) : Option (Int × List S113) := laws_markNodeS.f k l0 a1
set_option maxHeartbeats 8000000 in
set_option maxRecDepth 100000 in
theorem laws_markDoc.calls (k : Nat) (a0_0 a0_1 : Int) (P_ : Nat → Prop) (u_ : Value) (l0 : List S113) (a1 r1 : Int) (r2 : List S113) (w0 w : World) (hB : Below w0.heap.size w0 w) (ho : Kd.S k113 113 w w0.heap.size P_ u_ l0) (h : laws_markDoc.f k a0_0 a0_1 l0 a1 = some (r1, r2)) :
    Calls Tryz.prog 17 #[.agg #[.int .i64 a0_0, .int .i64 a0_1, u_], .int .i64 a1] w fun e w' => e = .returned (.int .i64 r1) ∧ Kd.S k113 113 w' w0.heap.size P_ u_ r2 ∧ Below w0.heap.size w0 w' ∧ Kept w w' P_ := by
  have huD := Tryz.underlying35
  obtain ⟨A, c0, rfl⟩ := Kd.S_slice ho
  have HS := Aside0.mk ho
  have HB := Aside0.mk hB
  have HH := Aside0.mk (show laws_markNodeS.f k l0 a1 = some (r1, r2) from h)
  clear ho hB h
  go_enter Tryz.func17, Tryz.ntmps17
  go_wp2_with (first
    | ((with_reducible refine gate_dst (N := 2) rfl ?_); refine XW.Xbox 2 #[.int .i64 a0_0, .int .i64 a0_1, .slice A l0.length c0] 35 ?_; intro gb hg wa hbox hb; have BK := Aside0.mk hbox; replace HS := Aside0.mk (Kd.S_below HS.out hb); replace HB := Aside0.mk (below_step HB.out hb); have HK := Aside0.mk (Kept.of_below hb P_); clear hg hbox hb; obtain ⟨hx0, hx1, hx2⟩ := XW.Xc3 BK)
    | ((with_reducible refine gate_callee (f := 53) rfl ?_); refine XW.Xgo 8 Tryz.func53 #[.slice A l0.length c0, .int .i64 a1] ?_; (with_reducible refine (laws_markNodeS.calls k P_ _ l0 a1 r1 r2 w0 _ HB.out HS.out HH.out).mono ?_); rintro e wb ⟨rfl, hs, hb, hk⟩; refine ⟨_, rfl, ?_⟩; replace HS := Aside0.mk hs; replace HB := Aside0.mk hb; replace HK := Aside0.mk (HK.out.then_ hk (fun k hk' => .inl hk')); clear hs hb hk hx0 hx1 hx2))
  go_ret
  exact ⟨by first | rfl | (simp; done) | (simp [*]; done), HS.out, HB.out, HK.out⟩
end Go.Proofs.YtahhgjkgfbppeaaGreat.XA
end
namespace Go.Proofs.YtahhgjkgfbppeaaGreat.XA
open Go.RowKit Go.Proofs.YtahhgjkgfbppeaaGreatW.PrintWords Go.Proofs.YtahhgjkgfbppeaaGreatW.PrintLast Go.Proofs.YtahhgjkgfbppeaaGreatW.PrintMore XW
attribute [local go_sem] max2_int min2_int max_two min_two max_three min_three max_four min_four   -- for this text's walks alone
set_option linter.unusedVariables false
set_option linter.unusedSimpArgs false
set_option maxHeartbeats 8000000
set_option maxRecDepth 100000
mutual
def laws_FnExactCircleOf.j0 : Nat → Int → List Int → Int → List Int → Int → Bool → Int → Int → List (S109) → List (S27) → List (S27) → Int → Int → List (S113) → List (S39) → List (S39) → Option (Bool)
 | 0, _, _, _, _, _, _, _, _, _, _, _, _, _, _, _, _ => none
 | k + 1, x2, x8, x9, x12, x13, x57, x748000, x748001, x748002, x749000, x749001, x772000, x772001, x772002, x779000, x779001 => if x57 = true then (some false) else ((laws_toDoc.f k x748000 x748001 x748002).bind fun bt784 => ((laws_eqDoc.f k x772000 x772001 x772002 bt784.1 bt784.2.1 bt784.2.2).bind fun t10 => (if t10 = true then ((laws_toTable.f k x749000 x749001).bind fun bt790 => ((laws_eqTable.f k x779000 x779001 bt790.1 bt790.2).bind fun t11 => (if t11 = true then ((laws_markDoc.f k x772000 x772001 x772002 1).bind fun bt797 => ((laws_markTable.f k x779000 x779001 bt797.1).bind fun bt799 => (if bt799.1 < 0 then (laws_FnExactCircleOf.j1 k x2 x8 x9 x12 true x748000 x748001 x748002 x749000 x749001) else ((laws_eqIntS.f k x12 x8).bind fun t14 => (if t14 = true then (laws_FnExactCircleOf.j1 k x2 x8 x9 x12 (x13 != x9) x748000 x748001 x748002 x749000 x749001) else (laws_FnExactCircleOf.j1 k x2 x8 x9 x12 true x748000 x748001 x748002 x749000 x749001)))))) else (some false)))) else (some false))))
def laws_FnExactCircleOf.j1 : Nat → Int → List Int → Int → List Int → Bool → Int → Int → List (S109) → List (S27) → List (S27) → Option (Bool)
 | 0, _, _, _, _, _, _, _, _, _, _ => none
 | k + 1, x2, x8, x9, x12, x86, x748000, x748001, x748002, x749000, x749001 => if x86 = true then (some false) else ((laws_markIntS.f k x12 1).bind fun bt803 => ((laws_heldIntS.f k bt803.2 1).bind fun t10 => (if t10 < 0 then (some false) else (if t10 = bt803.1 then ((laws_toDoc.f k x748000 x748001 x748002).bind fun bt806 => ((laws_toTable.f k x749000 x749001).bind fun bt811 => ((impl_CircleOf.f k bt806.1 bt806.2.1 bt806.2.2 bt811.1 bt811.2 x2).bind fun bt817 => ((laws_eqIntS.f k bt817.1 x8).bind fun t11 => (if t11 = true then (laws_FnExactCircleOf.j2 k bt803.2 bt803.1 (bt817.2 != x9)) else (laws_FnExactCircleOf.j2 k bt803.2 bt803.1 true)))))) else (some false)))))
def laws_FnExactCircleOf.j2 : Nat → List Int → Int → Bool → Option (Bool)
 | 0, _, _, _ => none
 | k + 1, x12, x15, x115 => if x115 = true then (some false) else ((laws_heldIntS.f k x12 1).bind fun t10 => (if t10 < 0 then (some false) else (if t10 = x15 then (some true) else (some false))))
end
def laws_FnExactCircleOf.f (k : Nat) (a0_0 : Int) (a0_1 : Int) (l0_2 : List (S109)) (l1_0 : List (S27)) (l1_1 : List (S27)) (a2 : Int) : Option (Bool) := (laws_szDoc.f k a0_0 a0_1 l0_2 1048576).bind fun t10 => (if t10 < 0 then (some true) else ((laws_szTable.f l1_0 l1_1 t10).bind fun t11 => (if t11 < 0 then (some true) else ((laws_toDoc.f k a0_0 a0_1 l0_2).bind fun bt751 => ((laws_toTable.f k l1_0 l1_1).bind fun bt756 => ((spec_CircleOf.f k bt751.1 bt751.2.1 bt751.2.2 bt756.1 bt756.2 a2).bind fun bt762 => ((laws_toDoc.f k a0_0 a0_1 l0_2).bind fun bt766 => ((laws_toTable.f k l1_0 l1_1).bind fun bt772 => ((impl_CircleOf.f k bt766.1 bt766.2.1 bt766.2.2 bt772.1 bt772.2 a2).bind fun bt779 => ((laws_eqIntS.f k bt779.1 bt762.1).bind fun t12 => (if t12 = true then (laws_FnExactCircleOf.j0 k a2 bt762.1 bt762.2 bt779.1 bt779.2 (bt779.2 != bt762.2) a0_0 a0_1 l0_2 l1_0 l1_1 bt766.1 bt766.2.1 bt766.2.2 bt772.1 bt772.2) else (laws_FnExactCircleOf.j0 k a2 bt762.1 bt762.2 bt779.1 bt779.2 true a0_0 a0_1 l0_2 l1_0 l1_1 bt766.1 bt766.2.1 bt766.2.2 bt772.1 bt772.2))))))))))))
def laws_FnExactCircleOf.T8 : Bool × List (List Nat × List Nat) := (true, [([], []), ([0], [0]), ([], []), ([2, 1], [2]), ([], []), ([1, 3, 4, 3], [1, 3, 4]), ([5], [5]), ([6], [6]), ([6], [6]), ([7, 5, 0, 1, 2, 3, 4, 5, 6, 7], [7]), ([8, 9, 0, 1, 2, 3, 4, 5, 6, 7, 8, 9], [8])])
def laws_FnExactCircleOf.B8 : List Nat := [0, 1, 0, 7, 0, 31, 63, 127, 127, 255, 1023]
theorem laws_FnExactCircleOf.tab8 : rtab .any (opsOf Tryz.f5 8) = laws_FnExactCircleOf.T8 := by kernel_rfl
theorem laws_FnExactCircleOf.bits8 : waitsOk laws_FnExactCircleOf.T8.2 laws_FnExactCircleOf.B8 = true := by kernel_rfl
def laws_FnExactCircleOf.T31 : Bool × List (List Nat × List Nat) := (true, [([], []), ([0], [0]), ([], []), ([2, 1], [2]), ([], []), ([1, 3, 4, 3], [1, 3, 4]), ([5], [5]), ([6], [6]), ([6], [6]), ([7, 5, 0, 1, 2, 3, 4, 5, 6, 7], [7]), ([8, 9, 0, 1, 2, 3, 4, 5, 6, 7, 8, 9], [8])])
def laws_FnExactCircleOf.B31 : List Nat := [0, 1, 0, 7, 0, 31, 63, 127, 127, 255, 1023]
theorem laws_FnExactCircleOf.tab31 : rtab .any (opsOf Tryz.f5 31) = laws_FnExactCircleOf.T31 := by kernel_rfl
theorem laws_FnExactCircleOf.bits31 : waitsOk laws_FnExactCircleOf.T31.2 laws_FnExactCircleOf.B31 = true := by kernel_rfl
theorem laws_FnExactCircleOf.calls (k : Nat) (a0_0 : Int) (a0_1 : Int) (A0_2 : Option Addr) (c0_2 : Nat) (l0_2 : List (S109)) (A1_0 : Option Addr) (c1_0 : Nat) (l1_0 : List (S27)) (A1_1 : Option Addr) (c1_1 : Nat) (l1_1 : List (S27)) (a2 : Int) (r : Bool) (w : World) (hr0_2 : Kd.C k109 w A0_2 l0_2.length l0_2) (hc0_2 : l0_2.length ≤ c0_2) (hr1_0 : Kd.C k27 w A1_0 l1_0.length l1_0) (hc1_0 : l1_0.length ≤ c1_0) (hr1_1 : Kd.C k27 w A1_1 l1_1.length l1_1) (hc1_1 : l1_1.length ≤ c1_1) (hr_ : r = true) (h : laws_FnExactCircleOf.f k a0_0 a0_1 l0_2 l1_0 l1_1 a2 = some r) :
  Calls Tryz.prog 5 #[.agg #[.int .i64 a0_0, .int .i64 a0_1, .slice A0_2 l0_2.length c0_2], .agg #[.slice A1_0 l1_0.length c1_0, .slice A1_1 l1_1.length c1_1], .int .i64 a2] w fun e w' => e = .returned (.bool r) ∧ Below w.heap.size w w' := by
 subst hr_
 have hu24 := Tryz.underlying24
 have hu49 := Tryz.underlying49
 have hu35 := Tryz.underlying35
 have hu53 := Tryz.underlying53
 have HR0_2 := Am hr0_2
 have HC0_2 := Am hc0_2
 clear hr0_2 hc0_2
 have HR1_0 := Am hr1_0
 have HC1_0 := Am hc1_0
 clear hr1_0 hc1_0
 have HR1_1 := Am hr1_1
 have HC1_1 := Am hc1_1
 clear hr1_1 hc1_1
 have HB := Am (Below.refl w.heap.size w)
 have H : ((laws_szDoc.f k a0_0 a0_1 l0_2 1048576).bind fun t749 => (if t749 < 0 then (some true) else ((laws_szTable.f l1_0 l1_1 t749).bind fun t750 => (if t750 < 0 then (some true) else ((laws_toDoc.f k a0_0 a0_1 l0_2).bind fun bt751 => ((laws_toTable.f k l1_0 l1_1).bind fun bt756 => ((spec_CircleOf.f k bt751.1 bt751.2.1 bt751.2.2 bt756.1 bt756.2 a2).bind fun bt762 => ((laws_toDoc.f k a0_0 a0_1 l0_2).bind fun bt766 => ((laws_toTable.f k l1_0 l1_1).bind fun bt772 => ((impl_CircleOf.f k bt766.1 bt766.2.1 bt766.2.2 bt772.1 bt772.2 a2).bind fun bt779 => ((laws_eqIntS.f k bt779.1 bt762.1).bind fun t783 => (if t783 = true then (laws_FnExactCircleOf.j0 k a2 bt762.1 bt762.2 bt779.1 bt779.2 (bt779.2 != bt762.2) a0_0 a0_1 l0_2 l1_0 l1_1 bt766.1 bt766.2.1 bt766.2.2 bt772.1 bt772.2) else (laws_FnExactCircleOf.j0 k a2 bt762.1 bt762.2 bt779.1 bt779.2 true a0_0 a0_1 l0_2 l1_0 l1_1 bt766.1 bt766.2.1 bt766.2.2 bt772.1 bt772.2))))))))))))) = some true := h
 clear h
 obtain ⟨t749, A4, H⟩ := Xbi H
 try dsimp only at H
 have HC5 := Am H
 clear H
 go_enter Tryz.func5, Tryz.ntmps5
 go_upto_if 23 with (first | ((with_reducible refine gate_dst (N := 3) rfl ?_); refine Xbx 3 #[.int .i64 a0_0, .int .i64 a0_1, .slice A0_2 l0_2.length c0_2] 24 ?_; intro gb747 hg w6 B747 GE747 hb; replace HB := Xhb hb; clear hb hg) | ((with_reducible refine gate_dst (N := 4) rfl ?_); refine Xbx 4 #[.slice A1_0 l1_0.length c1_0, .slice A1_1 l1_1.length c1_1] 49 ?_; intro gb748 hg w7 B748 GE748 hb; replace HB := Xhb hb; have NB747_748 := Xnb hg B747; have NB748_747 := Xns NB747_748; replace B747 := Xbb B747 hb; clear hb hg; have hnb8 := NB747_748.out; have hnc8 := NB748_747.out; obtain ⟨Z9_0, Z9_1, Z9_2⟩ := Xc3 B747; obtain ⟨F9_0, F9_1, F9_2⟩ := Xf3 B747) | ((with_reducible refine gate_callee (f := 7) rfl ?_); refine Xgo 21 Tryz.func7 #[.agg #[.int .i64 a0_0, .int .i64 a0_1, .slice A0_2 l0_2.length c0_2], .int .i64 1048576] ?_; (with_reducible refine (laws_szDoc.calls k a0_0 a0_1 _ _ l0_2 1048576 t749 _ ?s1 ?s2 A4.out).mono ?_); (case s1 => exact Xc HR0_2); (case s2 => exact HC0_2.out); rintro e w10 ⟨rfl, hb⟩; refine ⟨_, rfl, ?_⟩; replace B747 := Xbb B747 hb; replace B748 := Xbb B748 hb; replace HB := Xhb hb; clear hb))
 have H := HC5.out
 clear HC5
 obtain ⟨c11b0, H⟩ | ⟨c11b0, H⟩ := Xit H
 ·(first | rw [c11b0] | (simp only [i64_w, i32_w]; rw [c11b0]) | skip)
  go_wp2
  go_ret
  exact ⟨Xe, Xi⟩
 (first | rw [c11b0] | (simp only [i64_w, i32_w]; rw [c11b0]) | skip)
 obtain ⟨t750, A12, H⟩ := Xbi H
 try dsimp only at H
 have HC13 := Am H
 clear H
 have hnb14 := NB748_747.out
 have hnc14 := NB747_748.out
 obtain ⟨Z15_0, Z15_1⟩ := Xc2 B748
 obtain ⟨F15_0, F15_1⟩ := Xf2 B748
 go_upto_if 28 with ((with_reducible refine gate_callee (f := 21) rfl ?_); refine Xgo 26 Tryz.func21 #[.agg #[.slice A1_0 l1_0.length c1_0, .slice A1_1 l1_1.length c1_1], .int .i64 t749] ?_; (with_reducible refine (laws_szTable.calls _ _ l1_0 _ _ l1_1 t749 t750 _ ?s1 ?s2 ?s3 ?s4 A12.out).mono ?_); (case s1 => exact Xc HR1_0); (case s2 => exact HC1_0.out); (case s3 => exact Xc HR1_1); (case s4 => exact HC1_1.out); rintro e w16 ⟨rfl, hb⟩; refine ⟨_, rfl, ?_⟩; replace B747 := Xbb B747 hb; replace B748 := Xbb B748 hb; replace HB := Xhb hb; clear hb)
 have H := HC13.out
 clear HC13
 obtain ⟨c17b0, H⟩ | ⟨c17b0, H⟩ := Xit H
 ·(first | rw [c17b0] | (simp only [i64_w, i32_w]; rw [c17b0]) | skip)
  go_wp2
  go_ret
  exact ⟨Xe, Xi⟩
 (first | rw [c17b0] | (simp only [i64_w, i32_w]; rw [c17b0]) | skip)
 replace H := Option.bind_eq_some_iff.mp H
 obtain ⟨⟨t751, t752, t753⟩, A180, H⟩ := H
 try dsimp only at H
 have A18 := Am A180
 clear A180
 replace H := Option.bind_eq_some_iff.mp H
 obtain ⟨⟨t756, t759⟩, A190, H⟩ := H
 try dsimp only at H
 have A19 := Am A190
 clear A190
 replace H := Option.bind_eq_some_iff.mp H
 obtain ⟨⟨t762, t765⟩, A200, H⟩ := H
 try dsimp only at H
 have A20 := Am A200
 clear A200
 replace H := Option.bind_eq_some_iff.mp H
 obtain ⟨⟨t766, t767, t768⟩, A210, H⟩ := H
 try dsimp only at H
 have A21 := Am A210
 clear A210
 replace H := Option.bind_eq_some_iff.mp H
 obtain ⟨⟨t772, t775⟩, A220, H⟩ := H
 try dsimp only at H
 have A22 := Am A220
 clear A220
 replace H := Option.bind_eq_some_iff.mp H
 obtain ⟨⟨t779, t782⟩, A230, H⟩ := H
 try dsimp only at H
 have A23 := Am A230
 clear A230
 have HC24 := Am H
 clear H
 try go_wp2
 replace B747 := Xbd B747
 replace B748 := Xbd B748
 replace HB := Xhd HB
 refine Sx 11 (fun w' => w'.cell? ⟨gb747, 0, none⟩ = some (.int .i64 a0_0) ∧ w'.cell? ⟨gb747, 1, none⟩ = some (.int .i64 a0_1) ∧ w'.cell? ⟨gb747, 2, none⟩ = some (.slice A0_2 l0_2.length c0_2) ∧ w'.cell? ⟨gb748, 0, none⟩ = some (.slice A1_0 l1_0.length c1_0) ∧ w'.cell? ⟨gb748, 1, none⟩ = some (.slice A1_1 l1_1.length c1_1)) ⟨Xk B747 0, Xk B747 1, Xk B747 2, Xk B748 0, Xk B748 1⟩ (fun hHeld => ?_); refine with_tabW laws_FnExactCircleOf.tab8 laws_FnExactCircleOf.bits8 (fun HT_ HW_ => ?_)
 generalize w16.drew = w25 at B747 B748 HB hHeld ⊢
 refine Pu 4 34 11 16 ?_
 refine Ta 0 30 11 17 ?_
 refine Ta 2 32 11 21 ?_
 refine On 1 31 11 23 (fun K hK => ?_)
 refine Gs Tryz.func10 #[.agg #[.int .i64 a0_0, .int .i64 a0_1, .slice A0_2 l0_2.length c0_2]] ?_
 with_reducible refine (laws_toDoc.calls k a0_0 a0_1 _ _ l0_2 t751 t752 t753 _ ?s1 ?s2 A18.out).mono ?_
 (case s1 => exact Xc HR0_2)
 (case s2 => exact HC0_2.out)
 rintro e w26 ⟨v754, rfl, ho0, hb⟩
 refine ⟨_, rfl, ?_⟩
 have HO755 := Am (Kd.S_lower ho0 (below_size Xi))
 replace B747 := Xbb B747 hb
 replace B748 := Xbb B748 hb
 replace HB := Xhb hb
 try clear hb
 try clear hb2
 try clear hk
 try clear hi
 try clear ho0
 refine hK.out _ _ ⟨Xk B747 0, Xk B747 1, Xk B747 2, Xk B748 0, Xk B748 1⟩ (fun hHeld => ?_)
 clear hK K
 refine Xno ?_
 refine On 3 33 11 31 (fun K hK => ?_)
 refine Gs Tryz.func23 #[.agg #[.slice A1_0 l1_0.length c1_0, .slice A1_1 l1_1.length c1_1]] ?_
 with_reducible refine (laws_toTable.calls k _ _ l1_0 _ _ l1_1 t756 t759 _ ?s1 ?s2 ?s3 ?s4 A19.out).mono ?_
 (case s1 => exact Xc HR1_0)
 (case s2 => exact HC1_0.out)
 (case s3 => exact Xc HR1_1)
 (case s4 => exact HC1_1.out)
 rintro e w27 ⟨v757, v760, rfl, ho0, ho1, hb⟩
 refine ⟨_, rfl, ?_⟩
 replace HO755 := Am (Kd.S_below (Xq HO755) hb)
 have HO758 := Am (Kd.R_lower ho0 (below_size Xi))
 have HO761 := Am (Kd.R_lower ho1 (below_size Xi))
 replace B747 := Xbb B747 hb
 replace B748 := Xbb B748 hb
 replace HB := Xhb hb
 try clear hb
 try clear hb2
 try clear hk
 try clear hi
 try clear ho0
 try clear ho1
 obtain ⟨Ao28, co28, eo28⟩ := Kd.S_slice HO755.out
 (first | subst eo28 | (injection eo28 with f1_ f2_ f3_; have f4_ := f1_.symm; have f5_ := f3_.symm; clear f1_ f2_ f3_; subst f4_; subst f5_))
 obtain ⟨Ao29, co29, eo29⟩ := Kd.R_slice HO758.out
 (first | subst eo29 | (injection eo29 with f1_ f2_ f3_; have f4_ := f1_.symm; have f5_ := f3_.symm; clear f1_ f2_ f3_; subst f4_; subst f5_))
 obtain ⟨Ao30, co30, eo30⟩ := Kd.R_slice HO761.out
 (first | subst eo30 | (injection eo30 with f1_ f2_ f3_; have f4_ := f1_.symm; have f5_ := f3_.symm; clear f1_ f2_ f3_; subst f4_; subst f5_))
 refine hK.out _ _ ⟨Xk B747 0, Xk B747 1, Xk B747 2, Xk B748 0, Xk B748 1⟩ (fun hHeld => ?_)
 clear hK K
 refine Xno ?_
 refine On 5 35 11 63 (fun K hK => ?_)
 refine Gs Tryz.func27 #[.agg #[.int .i64 t751, .int .i64 t752, .slice Ao28 t753.length co28], .agg #[.slice Ao29 t756.length co29, .slice Ao30 t759.length co30], .int .i64 a2] ?_
 with_reducible refine (spec_CircleOf.calls k t751 t752 _ _ t753 _ _ t756 _ _ t759 a2 t762 t765 _ ?s1 ?s2 ?s3 ?s4 ?s5 ?s6 A20.out).mono ?_
 (case s1 => exact Xcd (Kd.S_reads' HO755.out).2.2)
 (case s2 => exact (Kd.S_reads' HO755.out).2.1)
 (case s3 => exact Xcd (Kd.R_reads' HO758.out).2.2)
 (case s4 => exact (Kd.R_reads' HO758.out).2.1)
 (case s5 => exact Xcd (Kd.R_reads' HO761.out).2.2)
 (case s6 => exact (Kd.R_reads' HO761.out).2.1)
 rintro e w31 ⟨v763, rfl, ho0, hb⟩
 refine ⟨_, rfl, ?_⟩
 replace HO755 := Am (Kd.S_elder' (Xq HO755) (Kd.R_base ho0) hb)
 replace HO758 := Am (Kd.R_below (Xq HO758) hb)
 replace HO761 := Am (Kd.R_below (Xq HO761) hb)
 have HO764 := Am (Kd.R_lower ho0 (below_size Xi))
 replace B747 := Xbb B747 hb
 replace B748 := Xbb B748 hb
 replace HB := Xhb hb
 try clear hb
 try clear hb2
 try clear hk
 try clear hi
 try clear ho0
 refine hK.out _ _ ⟨Xk B747 0, Xk B747 1, Xk B747 2, Xk B748 0, Xk B748 1⟩ (fun hHeld => ?_)
 clear hK K
 refine Xno ?_
 refine Pu 6 29 11 127 ?_
 refine Pu 7 36 11 255 ?_
 refine Pu 8 37 11 511 ?_
 refine Pu 9 8 11 1023 ?_
 refine Pu 10 9 11 2047 ?_
 refine Dn ?_
 have hnb32 := NB747_748.out
 have hnc32 := NB748_747.out
 obtain ⟨Z33_0, Z33_1, Z33_2⟩ := Xc3 B747
 obtain ⟨F33_0, F33_1, F33_2⟩ := Xf3 B747
 go_upto_region 12 with (first | ((with_reducible refine gate_callee (f := 10) rfl ?_); refine Xgo 39 Tryz.func10 #[.agg #[.int .i64 a0_0, .int .i64 a0_1, .slice A0_2 l0_2.length c0_2]] ?_; (with_reducible refine (laws_toDoc.calls k a0_0 a0_1 _ _ l0_2 t766 t767 t768 _ ?s1 ?s2 A21.out).mono ?_); (case s1 => exact Xc HR0_2); (case s2 => exact HC0_2.out); rintro e w34 ⟨v769, rfl, ho0, hb⟩; refine ⟨_, rfl, ?_⟩; replace HO758 := Am (Kd.R_below (Xq HO758) hb); replace HO761 := Am (Kd.R_below (Xq HO761) hb); have HO770 := Am (Kd.S_lower (Kd.S_new' (Kd.S_new' ho0 (Kd.S_lt (Xq HO755))) (Kd.R_lt (Xq HO764))) (below_size Xi)); replace HO755 := Am (Kd.S_elder' (Xq HO755) (Kd.S_base ho0) hb); replace HO764 := Am (Kd.R_below (Xq HO764) hb); replace B747 := Xbb B747 hb; replace B748 := Xbb B748 hb; replace HB := Xhb hb; clear hb; (try clear ho0)) | ((with_reducible refine gate_dst (N := 10) rfl ?_); refine Xbox 10 #[.int .i64 0, .int .i64 0, .slice none 0 0] 35 ?_; intro gb771 hg w35 hbox hb; replace HO755 := Am (Kd.S_below (Xq HO755) hb); replace HO758 := Am (Kd.R_below (Xq HO758) hb); replace HO761 := Am (Kd.R_below (Xq HO761) hb); replace HO764 := Am (Kd.R_below (Xq HO764) hb); replace HO770 := Am (Kd.S_below (Xq HO770) hb); have B771 := Am (hbox); have GE771 := Xge hg Xi; replace HB := Xhb hb; have NB747_771 := Xnb hg B747; have NB771_747 := Xns NB747_771; replace B747 := Xbb B747 hb; have NB748_771 := Xnb hg B748; have NB771_748 := Xns NB748_771; replace B748 := Xbb B748 hb; clear hb hbox hg; have hnb36 := NB771_747.out; have hnc36 := NB747_771.out; have hnb37 := NB771_748.out; have hnc37 := NB748_771.out; obtain ⟨Z38_0, Z38_1, Z38_2⟩ := Xc3 B771; obtain ⟨F38_0, F38_1, F38_2⟩ := Xf3 B771; obtain ⟨Ao39, co39, eo39⟩ := Kd.S_slice HO770.out; subst eo39) | ((with_reducible refine gate_store (t := 35) (p := 10) rfl ?_); refine store_event (t := 35) (p := 10) (v := ?vo_w40) (w1 := (((w35.setCell ⟨gb771, 0, none⟩ (.int .i64 t766)).setCell ⟨gb771, 1, none⟩ (.int .i64 t767)).setCell ⟨gb771, 2, none⟩ (.slice Ao39 t768.length co39))) ?hg ?ho ?hn ?hr ?_; (case ho => rfl); (case hg => rfl); (case hn => rfl); (case hr => first | (go_simp; done) | (go_simp; rfl)); intro w40 hw; have n0_ : Aside0 (Kd.S k113 113 w40 w.heap.size (fun k_ => some k_ ≠ (v763 : Value).ownBlock ∧ some k_ ≠ (.slice Ao39 t768.length co39 : Value).ownBlock) (.slice Ao28 t753.length co28) t753) := ⟨(by rw [hw]; exact (by (with_reducible repeat (first | apply Kd.S_alloc | apply Kd.S_drewN | apply Kd.S_drew)); exact Kd.S_mono (Kd.S_far (p := ⟨gb771, 2, none⟩) (Kd.S_far (p := ⟨gb771, 1, none⟩) (Kd.S_far (p := ⟨gb771, 0, none⟩) (Kd.S_types HO755.out B771.out (by decide)) (fun _ hk => hk.2) (.int .i64 t766)) (fun _ hk => hk.2) (.int .i64 t767)) (fun _ hk => hk.2) (.slice Ao39 t768.length co39)) (fun _ hk => ⟨hk.1.1.2, hk.1.2⟩)))⟩; have n1_ : Aside0 (Kd.R k39 39 w40 w.heap.size (fun k_ => some k_ ≠ (.slice Ao30 t759.length co30 : Value).ownBlock) (.slice Ao29 t756.length co29) t756) := ⟨(by rw [hw]; exact (by (with_reducible repeat (first | apply Kd.R_alloc | apply Kd.R_drewN | apply Kd.R_drew)); exact Kd.R_mono (Kd.R_far (p := ⟨gb771, 2, none⟩) (Kd.R_far (p := ⟨gb771, 1, none⟩) (Kd.R_far (p := ⟨gb771, 0, none⟩) (Kd.R_types HO758.out B771.out (by decide)) (fun _ hk => hk.2) (.int .i64 t766)) (fun _ hk => hk.2) (.int .i64 t767)) (fun _ hk => hk.2) (.slice Ao39 t768.length co39)) (fun _ hk => hk.1)))⟩; have n2_ : Aside0 (Kd.R k39 39 w40 w.heap.size (fun k_ => some k_ ≠ (.slice Ao29 t756.length co29 : Value).ownBlock) (.slice Ao30 t759.length co30) t759) := ⟨(by rw [hw]; exact (by (with_reducible repeat (first | apply Kd.R_alloc | apply Kd.R_drewN | apply Kd.R_drew)); exact Kd.R_mono (Kd.R_far (p := ⟨gb771, 2, none⟩) (Kd.R_far (p := ⟨gb771, 1, none⟩) (Kd.R_far (p := ⟨gb771, 0, none⟩) (Kd.R_types HO761.out B771.out (by decide)) (fun _ hk => hk.2) (.int .i64 t766)) (fun _ hk => hk.2) (.int .i64 t767)) (fun _ hk => hk.2) (.slice Ao39 t768.length co39)) (fun _ hk => hk.1)))⟩; have n3_ : Aside0 (Kd.R (Kd.int .i64) 3 w40 w.heap.size (fun _ => True) v763 t762) := ⟨(by rw [hw]; exact (by (with_reducible repeat (first | apply Kd.R_alloc | apply Kd.R_drewN | apply Kd.R_drew)); exact Kd.R_mono (Kd.R_far (p := ⟨gb771, 2, none⟩) (Kd.R_far (p := ⟨gb771, 1, none⟩) (Kd.R_far (p := ⟨gb771, 0, none⟩) (Kd.R_types HO764.out B771.out (by decide)) (fun _ hk => hk.2) (.int .i64 t766)) (fun _ hk => hk.2) (.int .i64 t767)) (fun _ hk => hk.2) (.slice Ao39 t768.length co39)) (fun _ hk => trivial)))⟩; have n4_ : Aside0 (Kd.S k113 113 w40 w.heap.size (fun k_ => some k_ ≠ (.slice Ao28 t753.length co28 : Value).ownBlock ∧ some k_ ≠ (v763 : Value).ownBlock) (.slice Ao39 t768.length co39) t768) := ⟨(by rw [hw]; exact (by (with_reducible repeat (first | apply Kd.S_alloc | apply Kd.S_drewN | apply Kd.S_drew)); exact Kd.S_mono (Kd.S_far (p := ⟨gb771, 2, none⟩) (Kd.S_far (p := ⟨gb771, 1, none⟩) (Kd.S_far (p := ⟨gb771, 0, none⟩) (Kd.S_types HO770.out B771.out (by decide)) (fun _ hk => hk.2) (.int .i64 t766)) (fun _ hk => hk.2) (.int .i64 t767)) (fun _ hk => hk.2) (.slice Ao39 t768.length co39)) (fun _ hk => ⟨hk.1.1.2, hk.1.2⟩)))⟩; have n5_ : Aside0 (w40.heap[gb747]? = some (.cells #[.int .i64 a0_0, .int .i64 a0_1, .slice A0_2 l0_2.length c0_2] 24 (0, 0))) := ⟨(by rw [hw]; exact (by refine Xu ?_; refine blk_far ?_ NB747_771.out _; refine Xu ?_; refine blk_far ?_ NB747_771.out _; refine Xu ?_; refine blk_far ?_ NB747_771.out _; refine Xu ?_; exact B747.out))⟩; have n6_ : Aside0 (w40.heap[gb748]? = some (.cells #[.slice A1_0 l1_0.length c1_0, .slice A1_1 l1_1.length c1_1] 49 (0, 0))) := ⟨(by rw [hw]; exact (by refine Xu ?_; refine blk_far ?_ NB748_771.out _; refine Xu ?_; refine blk_far ?_ NB748_771.out _; refine Xu ?_; refine blk_far ?_ NB748_771.out _; refine Xu ?_; exact B748.out))⟩; have n7_ : Aside0 (w40.heap[gb771]? = some (.cells #[.int .i64 t766, .int .i64 t767, .slice Ao39 t768.length co39] 35 (0, 0))) := ⟨(by rw [hw]; exact (by refine Xu ?_; refine blk_put (cs := #[.int .i64 t766, .int .i64 t767, .slice none 0 0]) ?_ 2 _ rfl; refine Xu ?_; refine blk_put (cs := #[.int .i64 t766, .int .i64 0, .slice none 0 0]) ?_ 1 _ rfl; refine Xu ?_; refine blk_put (cs := #[.int .i64 0, .int .i64 0, .slice none 0 0]) ?_ 0 _ rfl; refine Xu ?_; exact B771.out))⟩; have n8_ : Aside0 (Below w.heap.size w w40) := ⟨(by rw [hw]; exact Xi)⟩; clear hw; clear HO755; clear HO758; clear HO761; clear HO764; clear HO770; clear B747; clear B748; clear B771; clear HB; have HO755 := n0_; have HO758 := n1_; have HO761 := n2_; have HO764 := n3_; have HO770 := n4_; have B747 := n5_; have B748 := n6_; have B771 := n7_; have HB := n8_; clear n0_ n1_ n2_ n3_ n4_ n5_ n6_ n7_ n8_; obtain ⟨Z41_0, Z41_1⟩ := Xc2 B748; obtain ⟨F41_0, F41_1⟩ := Xf2 B748) | ((with_reducible refine gate_callee (f := 23) rfl ?_); refine Xgo 41 Tryz.func23 #[.agg #[.slice A1_0 l1_0.length c1_0, .slice A1_1 l1_1.length c1_1]] ?_; (with_reducible refine (laws_toTable.calls k _ _ l1_0 _ _ l1_1 t772 t775 _ ?s1 ?s2 ?s3 ?s4 A22.out).mono ?_); (case s1 => exact Xc HR1_0); (case s2 => exact HC1_0.out); (case s3 => exact Xc HR1_1); (case s4 => exact HC1_1.out); rintro e w42 ⟨v773, v776, rfl, ho0, ho1, hb⟩; refine ⟨_, rfl, ?_⟩; replace HO755 := Am (Kd.S_below (Xq HO755) hb); replace HO764 := Am (Kd.R_below (Xq HO764) hb); replace HO770 := Am (Kd.S_below (Xq HO770) hb); have HO774 := Am (Kd.R_lower (Kd.R_new' (Kd.R_new' ho0 (Kd.R_lt (Xq HO758))) (Kd.R_lt (Xq HO761))) (below_size Xi)); have HO777 := Am (Kd.R_lower (Kd.R_new' (Kd.R_new' ho1 (Kd.R_lt (Xq HO758))) (Kd.R_lt (Xq HO761))) (below_size Xi)); replace HO758 := Am (Kd.R_mono (Kd.R_told (Kd.R_told (Kd.R_old (Xq HO758) hb) (Kd.R_base ho0)) (Kd.R_base ho1)) (fun _ h_ => h_.1)); replace HO761 := Am (Kd.R_mono (Kd.R_told (Kd.R_told (Kd.R_old (Xq HO761) hb) (Kd.R_base ho0)) (Kd.R_base ho1)) (fun _ h_ => h_.1)); replace B747 := Xbb B747 hb; replace B748 := Xbb B748 hb; replace B771 := Xbb B771 hb; replace HB := Xhb hb; clear hb; (try clear ho0); (try clear ho1)) | ((with_reducible refine gate_dst (N := 11) rfl ?_); refine Xbox 11 #[.slice none 0 0, .slice none 0 0] 53 ?_; intro gb778 hg w43 hbox hb; replace HO755 := Am (Kd.S_below (Xq HO755) hb); replace HO758 := Am (Kd.R_below (Xq HO758) hb); replace HO761 := Am (Kd.R_below (Xq HO761) hb); replace HO764 := Am (Kd.R_below (Xq HO764) hb); replace HO770 := Am (Kd.S_below (Xq HO770) hb); replace HO774 := Am (Kd.R_below (Xq HO774) hb); replace HO777 := Am (Kd.R_below (Xq HO777) hb); have B778 := Am (hbox); have GE778 := Xge hg Xi; replace HB := Xhb hb; have NB747_778 := Xnb hg B747; have NB778_747 := Xns NB747_778; replace B747 := Xbb B747 hb; have NB748_778 := Xnb hg B748; have NB778_748 := Xns NB748_778; replace B748 := Xbb B748 hb; have NB771_778 := Xnb hg B771; have NB778_771 := Xns NB771_778; replace B771 := Xbb B771 hb; clear hb hbox hg; obtain ⟨Ao44, co44, eo44⟩ := Kd.R_slice HO774.out; subst eo44; have hnb45 := NB778_747.out; have hnc45 := NB747_778.out; have hnb46 := NB778_748.out; have hnc46 := NB748_778.out; have hnb47 := NB778_771.out; have hnc47 := NB771_778.out; obtain ⟨Z48_0, Z48_1⟩ := Xc2 B778; obtain ⟨F48_0, F48_1⟩ := Xf2 B778; obtain ⟨Ao49, co49, eo49⟩ := Kd.R_slice HO777.out; subst eo49; obtain ⟨Z50_0, Z50_1, Z50_2⟩ := Xc3 B771; obtain ⟨F50_0, F50_1, F50_2⟩ := Xf3 B771) | ((with_reducible refine gate_callee (f := 28) rfl ?_); refine Xgo 46 Tryz.func28 #[.agg #[.int .i64 t766, .int .i64 t767, .slice Ao39 t768.length co39], .agg #[.slice Ao44 t772.length co44, .slice Ao49 t775.length co49], .int .i64 a2] ?_; (with_reducible refine (impl_CircleOf.calls k t766 t767 _ _ t768 _ _ t772 _ _ t775 a2 t779 t782 _ ?s1 ?s2 ?s3 ?s4 ?s5 ?s6 A23.out).mono ?_); (case s1 => refine (Kd.S_reads' (e := 113) (base := w.heap.size) (ok := fun k_ => (some k_ ≠ (.slice Ao28 t753.length co28 : Value).ownBlock ∧ some k_ ≠ (v763 : Value).ownBlock)) (n := t768.length) (c := co39) ?_).2.2; exact (by (with_reducible repeat (first | apply Kd.S_alloc | apply Kd.S_drewN | apply Kd.S_drew)); exact (Kd.S_mono (Kd.S_far (p := ⟨gb778, 1, none⟩) (Kd.S_far (p := ⟨gb778, 0, none⟩) (Kd.S_types HO770.out B778.out (by decide)) (fun _ hk => hk.2) (.slice Ao44 t772.length co44)) (fun _ hk => hk.2) (.slice Ao49 t775.length co49)) (fun _ h_ => h_.1)))); (case s2 => exact (Kd.S_reads' HO770.out).2.1); (case s3 => refine (Kd.R_reads' (e := 39) (base := w.heap.size) (ok := fun k_ => ((some k_ ≠ (.slice Ao49 t775.length co49 : Value).ownBlock ∧ some k_ ≠ (.slice Ao29 t756.length co29 : Value).ownBlock) ∧ some k_ ≠ (.slice Ao30 t759.length co30 : Value).ownBlock)) (n := t772.length) (c := co44) ?_).2.2; exact (by (with_reducible repeat (first | apply Kd.R_alloc | apply Kd.R_drewN | apply Kd.R_drew)); exact (Kd.R_mono (Kd.R_far (p := ⟨gb778, 1, none⟩) (Kd.R_far (p := ⟨gb778, 0, none⟩) (Kd.R_types HO774.out B778.out (by decide)) (fun _ hk => hk.2) (.slice Ao44 t772.length co44)) (fun _ hk => hk.2) (.slice Ao49 t775.length co49)) (fun _ h_ => h_.1)))); (case s4 => exact (Kd.R_reads' HO774.out).2.1); (case s5 => refine (Kd.R_reads' (e := 39) (base := w.heap.size) (ok := fun k_ => ((some k_ ≠ (.slice Ao44 t772.length co44 : Value).ownBlock ∧ some k_ ≠ (.slice Ao29 t756.length co29 : Value).ownBlock) ∧ some k_ ≠ (.slice Ao30 t759.length co30 : Value).ownBlock)) (n := t775.length) (c := co49) ?_).2.2; exact (by (with_reducible repeat (first | apply Kd.R_alloc | apply Kd.R_drewN | apply Kd.R_drew)); exact (Kd.R_mono (Kd.R_far (p := ⟨gb778, 1, none⟩) (Kd.R_far (p := ⟨gb778, 0, none⟩) (Kd.R_types HO777.out B778.out (by decide)) (fun _ hk => hk.2) (.slice Ao44 t772.length co44)) (fun _ hk => hk.2) (.slice Ao49 t775.length co49)) (fun _ h_ => h_.1)))); (case s6 => exact (Kd.R_reads' HO777.out).2.1); rintro e w51 ⟨v780, rfl, ho0, hb⟩; refine ⟨_, rfl, ?_⟩; replace HO755 := Am (Kd.S_elder' (by (with_reducible repeat (first | apply Kd.S_alloc | apply Kd.S_drewN | apply Kd.S_drew)); exact (Kd.S_mono (Kd.S_far (p := ⟨gb778, 1, none⟩) (Kd.S_far (p := ⟨gb778, 0, none⟩) (Kd.S_types HO755.out B778.out (by decide)) (fun _ hk => hk.2) (.slice Ao44 t772.length co44)) (fun _ hk => hk.2) (.slice Ao49 t775.length co49)) (fun _ h_ => h_.1))) (Kd.R_base ho0) hb); replace HO758 := Am (Kd.R_below (by (with_reducible repeat (first | apply Kd.R_alloc | apply Kd.R_drewN | apply Kd.R_drew)); exact (Kd.R_mono (Kd.R_far (p := ⟨gb778, 1, none⟩) (Kd.R_far (p := ⟨gb778, 0, none⟩) (Kd.R_types HO758.out B778.out (by decide)) (fun _ hk => hk.2) (.slice Ao44 t772.length co44)) (fun _ hk => hk.2) (.slice Ao49 t775.length co49)) (fun _ h_ => h_.1))) hb); replace HO761 := Am (Kd.R_below (by (with_reducible repeat (first | apply Kd.R_alloc | apply Kd.R_drewN | apply Kd.R_drew)); exact (Kd.R_mono (Kd.R_far (p := ⟨gb778, 1, none⟩) (Kd.R_far (p := ⟨gb778, 0, none⟩) (Kd.R_types HO761.out B778.out (by decide)) (fun _ hk => hk.2) (.slice Ao44 t772.length co44)) (fun _ hk => hk.2) (.slice Ao49 t775.length co49)) (fun _ h_ => h_.1))) hb); replace HO770 := Am (Kd.S_elder' (by (with_reducible repeat (first | apply Kd.S_alloc | apply Kd.S_drewN | apply Kd.S_drew)); exact (Kd.S_mono (Kd.S_far (p := ⟨gb778, 1, none⟩) (Kd.S_far (p := ⟨gb778, 0, none⟩) (Kd.S_types HO770.out B778.out (by decide)) (fun _ hk => hk.2) (.slice Ao44 t772.length co44)) (fun _ hk => hk.2) (.slice Ao49 t775.length co49)) (fun _ h_ => h_.1))) (Kd.R_base ho0) hb); replace HO774 := Am (Kd.R_below (by (with_reducible repeat (first | apply Kd.R_alloc | apply Kd.R_drewN | apply Kd.R_drew)); exact (Kd.R_mono (Kd.R_far (p := ⟨gb778, 1, none⟩) (Kd.R_far (p := ⟨gb778, 0, none⟩) (Kd.R_types HO774.out B778.out (by decide)) (fun _ hk => hk.2) (.slice Ao44 t772.length co44)) (fun _ hk => hk.2) (.slice Ao49 t775.length co49)) (fun _ h_ => h_.1))) hb); replace HO777 := Am (Kd.R_below (by (with_reducible repeat (first | apply Kd.R_alloc | apply Kd.R_drewN | apply Kd.R_drew)); exact (Kd.R_mono (Kd.R_far (p := ⟨gb778, 1, none⟩) (Kd.R_far (p := ⟨gb778, 0, none⟩) (Kd.R_types HO777.out B778.out (by decide)) (fun _ hk => hk.2) (.slice Ao44 t772.length co44)) (fun _ hk => hk.2) (.slice Ao49 t775.length co49)) (fun _ h_ => h_.1))) hb); have HO781 := Am (Kd.R_lower (Kd.R_new' ho0 (Kd.R_lt (by (with_reducible repeat (first | apply Kd.R_alloc | apply Kd.R_drewN | apply Kd.R_drew)); exact (Kd.R_mono (Kd.R_far (p := ⟨gb778, 1, none⟩) (Kd.R_far (p := ⟨gb778, 0, none⟩) (Kd.R_types HO764.out B778.out (by decide)) (fun _ hk => hk.2) (.slice Ao44 t772.length co44)) (fun _ hk => hk.2) (.slice Ao49 t775.length co49)) (fun _ h_ => h_.1))))) (below_size Xi)); replace HO764 := Am (Kd.R_elder' (by (with_reducible repeat (first | apply Kd.R_alloc | apply Kd.R_drewN | apply Kd.R_drew)); exact (Kd.R_mono (Kd.R_far (p := ⟨gb778, 1, none⟩) (Kd.R_far (p := ⟨gb778, 0, none⟩) (Kd.R_types HO764.out B778.out (by decide)) (fun _ hk => hk.2) (.slice Ao44 t772.length co44)) (fun _ hk => hk.2) (.slice Ao49 t775.length co49)) (fun _ h_ => h_.1))) (Kd.R_base ho0) hb); replace B747 := Am (blk_below (g := gb747) (o := .cells #[.int .i64 a0_0, .int .i64 a0_1, .slice A0_2 l0_2.length c0_2] 24 (0, 0)) (by refine Xu ?_; refine blk_far ?_ NB747_778.out _; refine Xu ?_; refine blk_far ?_ NB747_778.out _; refine Xu ?_; exact B747.out) hb); replace B748 := Am (blk_below (g := gb748) (o := .cells #[.slice A1_0 l1_0.length c1_0, .slice A1_1 l1_1.length c1_1] 49 (0, 0)) (by refine Xu ?_; refine blk_far ?_ NB748_778.out _; refine Xu ?_; refine blk_far ?_ NB748_778.out _; refine Xu ?_; exact B748.out) hb); replace B771 := Am (blk_below (g := gb771) (o := .cells #[.int .i64 t766, .int .i64 t767, .slice Ao39 t768.length co39] 35 (0, 0)) (by refine Xu ?_; refine blk_far ?_ NB771_778.out _; refine Xu ?_; refine blk_far ?_ NB771_778.out _; refine Xu ?_; exact B771.out) hb); replace B778 := Am (blk_below (g := gb778) (o := .cells #[.slice Ao44 t772.length co44, .slice Ao49 t775.length co49] 53 (0, 0)) (by refine Xu ?_; refine blk_put (cs := #[.slice Ao44 t772.length co44, .slice none 0 0]) ?_ 1 _ rfl; refine Xu ?_; refine blk_put (cs := #[.slice none 0 0, .slice none 0 0]) ?_ 0 _ rfl; refine Xu ?_; exact B778.out) hb); replace HB := Xhb hb; clear hb; (try clear ho0)))
 (try simp only [XW.q0, XW.q1, XW.q2])
 go_cut [57] (fun v57 wc => ∃ (kq : Nat) (x57_23 : Bool), v57 = .bool x57_23 ∧ Aside0 (laws_FnExactCircleOf.j0 kq a2 t762 t765 t779 t782 x57_23 a0_0 a0_1 l0_2 l1_0 l1_1 t766 t767 t768 t772 t775 = some true) ∧ Aside0 (kq ≤ k) ∧ Aside0 (Kd.R (Kd.int .i64) 3 wc w.heap.size (fun k_ => some k_ ≠ (v780 : Value).ownBlock) v763 t762) ∧ Aside0 (Kd.R (Kd.int .i64) 3 wc w.heap.size (fun k_ => some k_ ≠ (v763 : Value).ownBlock) v780 t779) ∧ Aside0 (Kd.S k113 113 wc w.heap.size (fun k_ => some k_ ≠ (v763 : Value).ownBlock ∧ some k_ ≠ (v780 : Value).ownBlock) (.slice Ao39 t768.length co39) t768) ∧ Aside0 (Kd.R k39 39 wc w.heap.size (fun k_ => some k_ ≠ ((.slice Ao49 t775.length co49) : Value).ownBlock) (.slice Ao44 t772.length co44) t772) ∧ Aside0 (Kd.R k39 39 wc w.heap.size (fun k_ => some k_ ≠ ((.slice Ao44 t772.length co44) : Value).ownBlock) (.slice Ao49 t775.length co49) t775) ∧ Aside0 (wc.heap[gb747]? = some (.cells #[.int .i64 a0_0, .int .i64 a0_1, (.slice A0_2 l0_2.length c0_2)] 24 (0, 0))) ∧ Aside0 (wc.heap[gb748]? = some (.cells #[(.slice A1_0 l1_0.length c1_0), (.slice A1_1 l1_1.length c1_1)] 49 (0, 0))) ∧ Aside0 (wc.heap[gb771]? = some (.cells #[.int .i64 t766, .int .i64 t767, (.slice Ao39 t768.length co39)] 35 (0, 0))) ∧ Aside0 (wc.heap[gb778]? = some (.cells #[(.slice Ao44 t772.length co44), (.slice Ao49 t775.length co49)] 53 (0, 0))) ∧ Aside0 (Below w.heap.size w wc))
 case first =>
  have H := HC24.out
  clear HC24
  obtain ⟨t783, A52, H⟩ := Xbi H
  try dsimp only at H
  by_cases c53 : t783 = true
  ·subst c53
   try rw [if_pos rfl] at H
   have H' := Am H
   clear H
   obtain ⟨Ao54, co54, eo54⟩ := Kd.R_slice HO781.out
   subst eo54
   obtain ⟨Ao55, co55, eo55⟩ := Kd.R_slice HO764.out
   subst eo55
   go_wp2_with (first | ((with_reducible refine gate_callee (f := 14) rfl ?_); refine Xgo 51 Tryz.func14 #[.slice Ao54 t779.length co54, .slice Ao55 t762.length co55] ?_; (with_reducible refine (laws_eqIntS.calls k _ _ t779 _ _ t762 true _ ?s1 ?s2 ?s3 ?s4 A52.out).mono ?_); (case s1 => exact Xcd (Kd.R_reads' HO781.out).2.2); (case s2 => exact (Kd.R_reads' HO781.out).2.1); (case s3 => exact Xcd (Kd.R_reads' HO764.out).2.2); (case s4 => exact (Kd.R_reads' HO764.out).2.1); rintro e w' ⟨rfl, ⟨nd, rfl⟩⟩; refine ⟨_, rfl, ?_⟩))
   go_meet
   case rel => exact ⟨_, ((t782 != t765)), Xr, H', Xko, ⟨by (with_reducible repeat (first | apply Kd.R_alloc | apply Kd.R_drewN | apply Kd.R_drew)); exact Kd.R_mono HO764.out (fun _ hk => hk.2)⟩, ⟨by (with_reducible repeat (first | apply Kd.R_alloc | apply Kd.R_drewN | apply Kd.R_drew)); exact Kd.R_mono HO781.out (fun _ hk => hk.2)⟩, ⟨by (with_reducible repeat (first | apply Kd.S_alloc | apply Kd.S_drewN | apply Kd.S_drew)); exact Kd.S_mono HO770.out (fun _ hk => ⟨hk.1.2, hk.2⟩)⟩, ⟨by (with_reducible repeat (first | apply Kd.R_alloc | apply Kd.R_drewN | apply Kd.R_drew)); exact Kd.R_mono HO774.out (fun _ hk => hk.1.1)⟩, ⟨by (with_reducible repeat (first | apply Kd.R_alloc | apply Kd.R_drewN | apply Kd.R_drew)); exact Kd.R_mono HO777.out (fun _ hk => hk.1.1)⟩, B747, B748, B771, B778, ⟨Xi⟩⟩
  replace c53 := Xbf c53
  subst c53
  try rw [if_neg Xft] at H
  have H' := Am H
  clear H
  obtain ⟨Ao56, co56, eo56⟩ := Kd.R_slice HO781.out
  subst eo56
  obtain ⟨Ao57, co57, eo57⟩ := Kd.R_slice HO764.out
  subst eo57
  go_wp2_with (first | ((with_reducible refine gate_callee (f := 14) rfl ?_); refine Xgo 51 Tryz.func14 #[.slice Ao56 t779.length co56, .slice Ao57 t762.length co57] ?_; (with_reducible refine (laws_eqIntS.calls k _ _ t779 _ _ t762 false _ ?s1 ?s2 ?s3 ?s4 A52.out).mono ?_); (case s1 => exact Xcd (Kd.R_reads' HO781.out).2.2); (case s2 => exact (Kd.R_reads' HO781.out).2.1); (case s3 => exact Xcd (Kd.R_reads' HO764.out).2.2); (case s4 => exact (Kd.R_reads' HO764.out).2.1); rintro e w' ⟨rfl, ⟨nd, rfl⟩⟩; refine ⟨_, rfl, ?_⟩))
  go_meet
  case rel => exact ⟨_, (true), Xr, H', Xko, ⟨by (with_reducible repeat (first | apply Kd.R_alloc | apply Kd.R_drewN | apply Kd.R_drew)); exact Kd.R_mono HO764.out (fun _ hk => hk.2)⟩, ⟨by (with_reducible repeat (first | apply Kd.R_alloc | apply Kd.R_drewN | apply Kd.R_drew)); exact Kd.R_mono HO781.out (fun _ hk => hk.2)⟩, ⟨by (with_reducible repeat (first | apply Kd.S_alloc | apply Kd.S_drewN | apply Kd.S_drew)); exact Kd.S_mono HO770.out (fun _ hk => ⟨hk.1.2, hk.2⟩)⟩, ⟨by (with_reducible repeat (first | apply Kd.R_alloc | apply Kd.R_drewN | apply Kd.R_drew)); exact Kd.R_mono HO774.out (fun _ hk => hk.1.1)⟩, ⟨by (with_reducible repeat (first | apply Kd.R_alloc | apply Kd.R_drewN | apply Kd.R_drew)); exact Kd.R_mono HO777.out (fun _ hk => hk.1.1)⟩, B747, B748, B771, B778, ⟨Xi⟩⟩
 clear HC24
 (try clear c11); (try clear c11b0); (try clear c17); (try clear c17b0); (try clear Z15_0); (try clear Z15_1); (try clear Z33_0); (try clear Z33_1); (try clear Z33_2); (try clear Z38_0); (try clear Z38_1); (try clear Z38_2); (try clear Z41_0); (try clear Z41_1); (try clear Z48_0); (try clear Z48_1); (try clear Z50_0); (try clear Z50_1); (try clear Z50_2); (try clear Z9_0); (try clear Z9_1); (try clear Z9_2); (try clear F15_0); (try clear F15_1); (try clear F33_0); (try clear F33_1); (try clear F33_2); (try clear F38_0); (try clear F38_1); (try clear F38_2); (try clear F41_0); (try clear F41_1); (try clear F48_0); (try clear F48_1); (try clear F50_0); (try clear F50_1); (try clear F50_2); (try clear F9_0); (try clear F9_1); (try clear F9_2)
 (try clear O_8); (try clear O_12); (try clear O_772002); (try clear O_779000); (try clear O_779001)
 obtain ⟨kq, x57_23, rfl, HA, HJ23, O_8, O_12, O_772002, O_779000, O_779001, B747, B748, B771, B778, HB⟩ := hcut
 cases kq with | zero => cases HA.out | succ kj23 => ?_
 have H := HA.out
 clear HA
 simp only [laws_FnExactCircleOf.j0] at H
 by_cases c58 : x57_23 = true
 ·subst c58
  try rw [if_pos rfl] at H
  cases H
 replace c58 := Xbf c58
 subst c58
 try rw [if_neg Xft] at H
 replace H := Option.bind_eq_some_iff.mp H
 obtain ⟨⟨t784, t785, t786⟩, A590, H⟩ := H
 try dsimp only at H
 have A59 := Am A590
 clear A590
 obtain ⟨t789, A60, H⟩ := Xbi H
 try dsimp only at H
 have HC61 := Am H
 clear H
 try go_wp2_with (fail)
 replace O_8 := Am (Kd.R_drew O_8.out)
 replace O_12 := Am (Kd.R_drew O_12.out)
 replace O_772002 := Am (Kd.S_drew O_772002.out)
 replace O_779000 := Am (Kd.R_drew O_779000.out)
 replace O_779001 := Am (Kd.R_drew O_779001.out)
 replace B747 := Xbd B747
 replace B748 := Xbd B748
 replace B771 := Xbd B771
 replace B778 := Xbd B778
 replace HB := Xhd HB
 refine Sx 5 (fun w' => w'.cell? ⟨gb771, 0, none⟩ = some (.int .i64 t766) ∧ w'.cell? ⟨gb771, 1, none⟩ = some (.int .i64 t767) ∧ w'.cell? ⟨gb771, 2, none⟩ = some (.slice Ao39 t768.length co39) ∧ w'.cell? ⟨gb747, 0, none⟩ = some (.int .i64 a0_0) ∧ w'.cell? ⟨gb747, 1, none⟩ = some (.int .i64 a0_1) ∧ w'.cell? ⟨gb747, 2, none⟩ = some (.slice A0_2 l0_2.length c0_2)) ⟨Xk B771 0, Xk B771 1, Xk B771 2, Xk B747 0, Xk B747 1, Xk B747 2⟩ (fun hHeld => ?_)
 generalize wc.drew = w62 at O_8 O_12 O_772002 O_779000 O_779001 B747 B748 B771 B778 HB hHeld ⊢
 refine take_ (i := 0) (N := some 58) (v := ?_) (a' := ?_) #[true, false, false, false, false] rfl rfl (by kernel_rfl) (fun _ _ _ h => h) (Or.inl ⟨by rfl, ?_⟩) hHeld ?_ ?_
 rotate_left
 ·rintro w' ⟨s0, s1, s2, s3, s4, s5⟩
  go_simp
  with_reducible rfl
 rotate_left
 ·simp only [XW.q0, XW.q1, XW.q2, i64_w, i32_w]
  rfl
 refine take_ (i := 1) (N := some 59) (v := ?_) (a' := ?_) #[true, true, false, false, false] rfl rfl (by kernel_rfl) (fun _ _ _ h => h) (Or.inl ⟨by rfl, ?_⟩) hHeld ?_ ?_
 rotate_left
 ·rintro w' ⟨s0, s1, s2, s3, s4, s5⟩
  go_simp
  with_reducible rfl
 rotate_left
 ·simp only [XW.q0, XW.q1, XW.q2, i64_w, i32_w]
  rfl
 refine one_ (i := 2) (N := some 60) #[true, true, true, false, false] rfl rfl (by kernel_rfl) (by decide) (fun K hK => ?_)
 refine Gs Tryz.func10 #[.agg #[.int .i64 a0_0, .int .i64 a0_1, .slice A0_2 l0_2.length c0_2]] ?_
 with_reducible refine (laws_toDoc.calls kj23 a0_0 a0_1 _ _ l0_2 t784 t785 t786 _ ?s1 ?s2 A59.out).mono ?_
 (case s1 => exact Xc HR0_2)
 (case s2 => exact HC0_2.out)
 rintro e w63 ⟨v787, rfl, ho0, hb⟩
 refine ⟨_, rfl, ?_⟩
 replace O_779000 := Am (Kd.R_below (Xq O_779000) hb)
 replace O_779001 := Am (Kd.R_below (Xq O_779001) hb)
 have HO788 := Am (Kd.S_lower (Kd.S_new' (Kd.S_new' (Kd.S_new' ho0 (Kd.R_lt (Xq O_8))) (Kd.R_lt (Xq O_12))) (Kd.S_lt (Xq O_772002))) (below_size Xi))
 replace O_8 := Am (Kd.R_below (Xq O_8) hb)
 replace O_12 := Am (Kd.R_below (Xq O_12) hb)
 replace O_772002 := Am (Kd.S_elder' (Xq O_772002) (Kd.S_base ho0) hb)
 replace B747 := Xbb B747 hb
 replace B748 := Xbb B748 hb
 replace B771 := Xbb B771 hb
 replace B778 := Xbb B778 hb
 replace HB := Xhb hb
 try clear hb
 try clear hb2
 try clear hk
 try clear hi
 try clear ho0
 obtain ⟨Ao64, co64, eo64⟩ := Kd.S_slice HO788.out
 (first | subst eo64 | (injection eo64 with f1_ f2_ f3_; have f4_ := f1_.symm; have f5_ := f3_.symm; clear f1_ f2_ f3_; subst f4_; subst f5_))
 refine hK.out _ _ ⟨Xk B771 0, Xk B771 1, Xk B771 2, Xk B747 0, Xk B747 1, Xk B747 2⟩ (fun hHeld => ?_)
 clear hK K
 refine Xno ?_
 refine one_ (i := 3) (N := some 61) #[true, true, true, true, false] rfl rfl (by kernel_rfl) (by decide) (fun K hK => ?_)
 refine Gs Tryz.func15 #[.agg #[.int .i64 t766, .int .i64 t767, .slice Ao39 t768.length co39], .agg #[.int .i64 t784, .int .i64 t785, .slice Ao64 t786.length co64]] ?_
 with_reducible refine (laws_eqDoc.calls kj23 t766 t767 _ _ t768 t784 t785 _ _ t786 t789 _ ?s1 ?s2 ?s3 ?s4 A60.out).mono ?_
 (case s1 => exact Xcd (Kd.S_reads' O_772002.out).2.2)
 (case s2 => exact (Kd.S_reads' O_772002.out).2.1)
 (case s3 => exact Xcd (Kd.S_reads' HO788.out).2.2)
 (case s4 => exact (Kd.S_reads' HO788.out).2.1)
 rintro e w65 ⟨rfl, hb⟩
 refine ⟨_, rfl, ?_⟩
 replace O_8 := Am (Kd.R_below (Xq O_8) hb)
 replace O_12 := Am (Kd.R_below (Xq O_12) hb)
 replace O_772002 := Am (Kd.S_below (Xq O_772002) hb)
 replace O_779000 := Am (Kd.R_below (Xq O_779000) hb)
 replace O_779001 := Am (Kd.R_below (Xq O_779001) hb)
 replace HO788 := Am (Kd.S_below (Xq HO788) hb)
 replace B747 := Xbb B747 hb
 replace B748 := Xbb B748 hb
 replace B771 := Xbb B771 hb
 replace B778 := Xbb B778 hb
 replace HB := Xhb hb
 try clear hb
 try clear hb2
 try clear hk
 try clear hi
 refine hK.out _ _ ⟨Xk B771 0, Xk B771 1, Xk B771 2, Xk B747 0, Xk B747 1, Xk B747 2⟩ (fun hHeld => ?_)
 clear hK K
 refine Xno ?_
 refine pure_ (i := 4) (N := some 62) (v := ?_) (a' := ?_) #[true, true, true, true, true] rfl rfl (by kernel_rfl) (fun _ _ _ h => h) (Or.inl ⟨by rfl, ?_⟩) ?_ ?_
 rotate_left
 ·intro w'
  go_simp
  with_reducible rfl
 rotate_left
 ·simp only [XW.q0, XW.q1, XW.q2, i64_w, i32_w]
  rfl
 refine done_ (by kernel_rfl) ?_
 go_upto_if 62 with (fail)
 have H := HC61.out
 clear HC61
 by_cases c66 : t789 = true
 ·subst c66
  try rw [if_pos rfl] at H
  replace H := Option.bind_eq_some_iff.mp H
  obtain ⟨⟨t790, t793⟩, A670, H⟩ := H
  try dsimp only at H
  have A67 := Am A670
  clear A670
  obtain ⟨t796, A68, H⟩ := Xbi H
  try dsimp only at H
  have HC69 := Am H
  clear H
  try go_wp2_with (fail)
  replace O_8 := Am (Kd.R_drew O_8.out)
  replace O_12 := Am (Kd.R_drew O_12.out)
  replace O_772002 := Am (Kd.S_drew O_772002.out)
  replace O_779000 := Am (Kd.R_drew O_779000.out)
  replace O_779001 := Am (Kd.R_drew O_779001.out)
  replace HO788 := Am (Kd.S_drew HO788.out)
  replace B747 := Xbd B747
  replace B748 := Xbd B748
  replace B771 := Xbd B771
  replace B778 := Xbd B778
  replace HB := Xhd HB
  refine Sx 5 (fun w' => w'.cell? ⟨gb778, 0, none⟩ = some (.slice Ao44 t772.length co44) ∧ w'.cell? ⟨gb778, 1, none⟩ = some (.slice Ao49 t775.length co49) ∧ w'.cell? ⟨gb748, 0, none⟩ = some (.slice A1_0 l1_0.length c1_0) ∧ w'.cell? ⟨gb748, 1, none⟩ = some (.slice A1_1 l1_1.length c1_1)) ⟨Xk B778 0, Xk B778 1, Xk B748 0, Xk B748 1⟩ (fun hHeld => ?_)
  generalize w65.drew = w70 at O_8 O_12 O_772002 O_779000 O_779001 HO788 B747 B748 B771 B778 HB hHeld ⊢
  refine take_ (i := 0) (N := some 63) (v := ?_) (a' := ?_) #[true, false, false, false, false] rfl rfl (by kernel_rfl) (fun _ _ _ h => h) (Or.inl ⟨by rfl, ?_⟩) hHeld ?_ ?_
  rotate_left
  ·rintro w' ⟨s0, s1, s2, s3⟩
   go_simp
   with_reducible rfl
  rotate_left
  ·simp only [XW.q0, XW.q1, XW.q2, i64_w, i32_w]
   rfl
  refine take_ (i := 1) (N := some 64) (v := ?_) (a' := ?_) #[true, true, false, false, false] rfl rfl (by kernel_rfl) (fun _ _ _ h => h) (Or.inl ⟨by rfl, ?_⟩) hHeld ?_ ?_
  rotate_left
  ·rintro w' ⟨s0, s1, s2, s3⟩
   go_simp
   with_reducible rfl
  rotate_left
  ·simp only [XW.q0, XW.q1, XW.q2, i64_w, i32_w]
   rfl
  refine one_ (i := 2) (N := some 65) #[true, true, true, false, false] rfl rfl (by kernel_rfl) (by decide) (fun K hK => ?_)
  refine Gs Tryz.func23 #[.agg #[.slice A1_0 l1_0.length c1_0, .slice A1_1 l1_1.length c1_1]] ?_
  with_reducible refine (laws_toTable.calls kj23 _ _ l1_0 _ _ l1_1 t790 t793 _ ?s1 ?s2 ?s3 ?s4 A67.out).mono ?_
  (case s1 => exact Xc HR1_0)
  (case s2 => exact HC1_0.out)
  (case s3 => exact Xc HR1_1)
  (case s4 => exact HC1_1.out)
  rintro e w71 ⟨v791, v794, rfl, ho0, ho1, hb⟩
  refine ⟨_, rfl, ?_⟩
  replace O_8 := Am (Kd.R_below (Xq O_8) hb)
  replace O_12 := Am (Kd.R_below (Xq O_12) hb)
  replace O_772002 := Am (Kd.S_below (Xq O_772002) hb)
  replace HO788 := Am (Kd.S_below (Xq HO788) hb)
  have HO792 := Am (Kd.R_lower (Kd.R_new' (Kd.R_new' ho0 (Kd.R_lt (Xq O_779000))) (Kd.R_lt (Xq O_779001))) (below_size Xi))
  have HO795 := Am (Kd.R_lower (Kd.R_new' (Kd.R_new' ho1 (Kd.R_lt (Xq O_779000))) (Kd.R_lt (Xq O_779001))) (below_size Xi))
  replace O_779000 := Am (Kd.R_mono (Kd.R_told (Kd.R_told (Kd.R_old (Xq O_779000) hb) (Kd.R_base ho0)) (Kd.R_base ho1)) (fun _ h_ => h_.1))
  replace O_779001 := Am (Kd.R_mono (Kd.R_told (Kd.R_told (Kd.R_old (Xq O_779001) hb) (Kd.R_base ho0)) (Kd.R_base ho1)) (fun _ h_ => h_.1))
  replace B747 := Xbb B747 hb
  replace B748 := Xbb B748 hb
  replace B771 := Xbb B771 hb
  replace B778 := Xbb B778 hb
  replace HB := Xhb hb
  try clear hb
  try clear hb2
  try clear hk
  try clear hi
  try clear ho0
  try clear ho1
  obtain ⟨Ao72, co72, eo72⟩ := Kd.R_slice HO792.out
  (first | subst eo72 | (injection eo72 with f1_ f2_ f3_; have f4_ := f1_.symm; have f5_ := f3_.symm; clear f1_ f2_ f3_; subst f4_; subst f5_))
  obtain ⟨Ao73, co73, eo73⟩ := Kd.R_slice HO795.out
  (first | subst eo73 | (injection eo73 with f1_ f2_ f3_; have f4_ := f1_.symm; have f5_ := f3_.symm; clear f1_ f2_ f3_; subst f4_; subst f5_))
  refine hK.out _ _ ⟨Xk B778 0, Xk B778 1, Xk B748 0, Xk B748 1⟩ (fun hHeld => ?_)
  clear hK K
  refine Xno ?_
  refine one_ (i := 3) (N := some 66) #[true, true, true, true, false] rfl rfl (by kernel_rfl) (by decide) (fun K hK => ?_)
  refine Gs Tryz.func25 #[.agg #[.slice Ao44 t772.length co44, .slice Ao49 t775.length co49], .agg #[.slice Ao72 t790.length co72, .slice Ao73 t793.length co73]] ?_
  with_reducible refine (laws_eqTable.calls kj23 _ _ t772 _ _ t775 _ _ t790 _ _ t793 t796 _ ?s1 ?s2 ?s3 ?s4 ?s5 ?s6 ?s7 ?s8 A68.out).mono ?_
  (case s1 => exact Xcd (Kd.R_reads' O_779000.out).2.2)
  (case s2 => exact (Kd.R_reads' O_779000.out).2.1)
  (case s3 => exact Xcd (Kd.R_reads' O_779001.out).2.2)
  (case s4 => exact (Kd.R_reads' O_779001.out).2.1)
  (case s5 => exact Xcd (Kd.R_reads' HO792.out).2.2)
  (case s6 => exact (Kd.R_reads' HO792.out).2.1)
  (case s7 => exact Xcd (Kd.R_reads' HO795.out).2.2)
  (case s8 => exact (Kd.R_reads' HO795.out).2.1)
  rintro e w74 ⟨rfl, hb⟩
  refine ⟨_, rfl, ?_⟩
  replace O_8 := Am (Kd.R_below (Xq O_8) hb)
  replace O_12 := Am (Kd.R_below (Xq O_12) hb)
  replace O_772002 := Am (Kd.S_below (Xq O_772002) hb)
  replace O_779000 := Am (Kd.R_below (Xq O_779000) hb)
  replace O_779001 := Am (Kd.R_below (Xq O_779001) hb)
  replace HO788 := Am (Kd.S_below (Xq HO788) hb)
  replace HO792 := Am (Kd.R_below (Xq HO792) hb)
  replace HO795 := Am (Kd.R_below (Xq HO795) hb)
  replace B747 := Xbb B747 hb
  replace B748 := Xbb B748 hb
  replace B771 := Xbb B771 hb
  replace B778 := Xbb B778 hb
  replace HB := Xhb hb
  try clear hb
  try clear hb2
  try clear hk
  try clear hi
  refine hK.out _ _ ⟨Xk B778 0, Xk B778 1, Xk B748 0, Xk B748 1⟩ (fun hHeld => ?_)
  clear hK K
  refine Xno ?_
  refine pure_ (i := 4) (N := some 67) (v := ?_) (a' := ?_) #[true, true, true, true, true] rfl rfl (by kernel_rfl) (fun _ _ _ h => h) (Or.inl ⟨by rfl, ?_⟩) ?_ ?_
  rotate_left
  ·intro w'
   go_simp
   with_reducible rfl
  rotate_left
  ·simp only [XW.q0, XW.q1, XW.q2, i64_w, i32_w]
   rfl
  refine done_ (by kernel_rfl) ?_
  go_upto_if 67 with (fail)
  have H := HC69.out
  clear HC69
  by_cases c75 : t796 = true
  ·subst c75
   try rw [if_pos rfl] at H
   replace H := Option.bind_eq_some_iff.mp H
   obtain ⟨⟨t797, t798⟩, A760, H⟩ := H
   try dsimp only at H
   have A76 := Am A760
   clear A760
   replace H := Option.bind_eq_some_iff.mp H
   obtain ⟨⟨t799, t800, t801⟩, A770, H⟩ := H
   try dsimp only at H
   have A77 := Am A770
   clear A770
   have HC78 := Am H
   clear H
   have hnb79 := NB771_747.out
   have hnc79 := NB747_771.out
   have hnb80 := NB771_748.out
   have hnc80 := NB748_771.out
   have hnb81 := NB771_778.out
   have hnc81 := NB778_771.out
   obtain ⟨Z82_0, Z82_1, Z82_2⟩ := Xc3 B771
   obtain ⟨F82_0, F82_1, F82_2⟩ := Xf3 B771
   go_upto_region 21 with (first | ((with_reducible refine gate_callee (f := 17) rfl ?_); refine Xgo 70 Tryz.func17 #[.agg #[.int .i64 t766, .int .i64 t767, .slice Ao39 t768.length co39], .int .i64 1] ?_; (with_reducible refine (laws_markDoc.calls kj23 t766 t767 (fun k_ => ((((((((((some k_ ≠ (v763 : Value).ownBlock ∧ some k_ ≠ (v780 : Value).ownBlock) ∧ some k_ ≠ (.slice Ao64 t786.length co64 : Value).ownBlock) ∧ k_ ≠ gb747) ∧ k_ ≠ gb748) ∧ k_ ≠ gb771) ∧ k_ ≠ gb778) ∧ some k_ ≠ (.slice Ao44 t772.length co44 : Value).ownBlock) ∧ some k_ ≠ (.slice Ao49 t775.length co49 : Value).ownBlock) ∧ some k_ ≠ (.slice Ao72 t790.length co72 : Value).ownBlock) ∧ some k_ ≠ (.slice Ao73 t793.length co73 : Value).ownBlock)) (.slice Ao39 t768.length co39) t768 1 t797 t798 w _ ?s1 ?s2 A76.out).mono ?_); (case s1 => exact Xi); (case s2 => (with_reducible repeat (first | apply Kd.S_alloc | apply Kd.S_drewN | apply Kd.S_drew)); exact (Kd.S_apart' (Kd.S_apart' (Kd.S_apart' (Kd.S_apart' (Kd.S_types (Kd.S_types (Kd.S_types (Kd.S_types O_772002.out B747.out (by decide)) B748.out (by decide)) B771.out (by decide)) B778.out (by decide)) (Kd.R_typed O_779000.out) (by decide)) (Kd.R_typed O_779001.out) (by decide)) (Kd.R_typed HO792.out) (by decide)) (Kd.R_typed HO795.out) (by decide))); rintro e w83 ⟨rfl, hy0, hb, hkp⟩; refine ⟨_, rfl, ?_⟩; replace O_8 := Am (Kd.R_mono (ok' := fun k_ => some k_ ≠ (v780 : Value).ownBlock) (XR.R_keptT rfl O_8.out hkp (fun k_ hk_ hs_ => (hs_.1.1.1.1.1.1.1.1.1.1) hk_.1)) (fun k_ hk_ => hk_.1)); replace O_12 := Am (Kd.R_mono (ok' := fun k_ => some k_ ≠ (v763 : Value).ownBlock) (XR.R_keptT rfl O_12.out hkp (fun k_ hk_ hs_ => (hs_.1.1.1.1.1.1.1.1.1.2) hk_.1)) (fun k_ hk_ => hk_.1)); replace O_772002 := Am (hy0); replace O_779000 := Am (Kd.R_mono (ok' := fun k_ => some k_ ≠ (.slice Ao49 t775.length co49 : Value).ownBlock ∧ some k_ ≠ (.slice Ao72 t790.length co72 : Value).ownBlock ∧ some k_ ≠ (.slice Ao73 t793.length co73 : Value).ownBlock) (XR.R_keptT rfl O_779000.out hkp (fun k_ hk_ hs_ => (hs_.1.1.1.2) hk_.1)) (fun k_ hk_ => ⟨hk_.1.1.1, hk_.1.1.2, hk_.1.2⟩)); replace O_779001 := Am (Kd.R_mono (ok' := fun k_ => some k_ ≠ (.slice Ao44 t772.length co44 : Value).ownBlock ∧ some k_ ≠ (.slice Ao72 t790.length co72 : Value).ownBlock ∧ some k_ ≠ (.slice Ao73 t793.length co73 : Value).ownBlock) (XR.R_keptT rfl O_779001.out hkp (fun k_ hk_ hs_ => (hs_.1.1.2) hk_.1)) (fun k_ hk_ => ⟨hk_.1.1.1, hk_.1.1.2, hk_.1.2⟩)); replace B747 := Am (blk_kept B747.out hkp (fun hs_ => (hs_.1.1.1.1.1.1.1.2) rfl)); replace B748 := Am (blk_kept B748.out hkp (fun hs_ => (hs_.1.1.1.1.1.1.2) rfl)); replace B771 := Am (blk_kept B771.out hkp (fun hs_ => (hs_.1.1.1.1.1.2) rfl)); replace B778 := Am (blk_kept B778.out hkp (fun hs_ => (hs_.1.1.1.1.2) rfl)); replace HO792 := Am (Kd.R_mono (ok' := fun k_ => some k_ ≠ (.slice Ao44 t772.length co44 : Value).ownBlock ∧ some k_ ≠ (.slice Ao49 t775.length co49 : Value).ownBlock ∧ some k_ ≠ (.slice Ao73 t793.length co73 : Value).ownBlock) (XR.R_keptT rfl HO792.out hkp (fun k_ hk_ hs_ => (hs_.1.2) hk_.1)) (fun k_ hk_ => ⟨hk_.1.1.2, hk_.1.2, hk_.1.1.1⟩)); replace HO795 := Am (Kd.R_mono (ok' := fun k_ => some k_ ≠ (.slice Ao44 t772.length co44 : Value).ownBlock ∧ some k_ ≠ (.slice Ao49 t775.length co49 : Value).ownBlock ∧ some k_ ≠ (.slice Ao72 t790.length co72 : Value).ownBlock) (XR.R_keptT rfl HO795.out hkp (fun k_ hk_ hs_ => (hs_.2) hk_.1)) (fun k_ hk_ => ⟨hk_.1.1.2, hk_.1.2, hk_.1.1.1⟩)); replace HB := Am (hb); clear HO788; (try clear hb); (try clear hkp); (try clear hy0); have hnb84 := NB778_747.out; have hnc84 := NB747_778.out; have hnb85 := NB778_748.out; have hnc85 := NB748_778.out; obtain ⟨Z86_0, Z86_1⟩ := Xc2 B778; obtain ⟨F86_0, F86_1⟩ := Xf2 B778) | ((with_reducible refine gate_callee (f := 26) rfl ?_); refine Xgo 73 Tryz.func26 #[.agg #[.slice Ao44 t772.length co44, .slice Ao49 t775.length co49], .int .i64 t797] ?_; (with_reducible refine (laws_markTable.calls kj23 (fun k_ => some k_ = (.slice Ao44 t772.length co44 : Value).ownBlock) (.slice Ao44 t772.length co44) t772 (fun k_ => some k_ = (.slice Ao49 t775.length co49 : Value).ownBlock) (.slice Ao49 t775.length co49) t775 t797 t799 t800 t801 w _ ?s1 ?s2 ?s3 ?s4 ?s5 A77.out).mono ?_); (case s1 => exact Xi); (case s2 => exact Kd.R_tight rfl O_779000.out); (case s3 => exact fun k_ e_ => (O_779000.out.1 k_ e_.symm).1); (case s4 => exact Kd.R_tight rfl O_779001.out); (case s5 => exact fun k_ e_ => (O_779001.out.1 k_ e_.symm).1); rintro e w87 ⟨rfl, hy0, hy1, hb, hkp⟩; refine ⟨_, rfl, ?_⟩; replace O_8 := Am (Kd.R_mono (ok' := fun k_ => some k_ ≠ (v780 : Value).ownBlock) (Kd.R_keptB ((Kd.R_apart' (Kd.R_apart' O_8.out (Kd.R_typed O_779000.out) (by decide)) (Kd.R_typed O_779001.out) (by decide))) hkp (fun k_ hk_ hs_ => Or.elim hs_ (fun e_ => (hk_.1.2) e_) (fun e_ => (hk_.2) e_))) (fun k_ hk_ => hk_.1.1.1)); replace O_12 := Am (Kd.R_mono (ok' := fun k_ => some k_ ≠ (v763 : Value).ownBlock) (Kd.R_keptB ((Kd.R_apart' (Kd.R_apart' O_12.out (Kd.R_typed O_779000.out) (by decide)) (Kd.R_typed O_779001.out) (by decide))) hkp (fun k_ hk_ hs_ => Or.elim hs_ (fun e_ => (hk_.1.2) e_) (fun e_ => (hk_.2) e_))) (fun k_ hk_ => hk_.1.1.1)); replace O_772002 := Am (Kd.S_mono (ok' := fun k_ => some k_ ≠ (v763 : Value).ownBlock ∧ some k_ ≠ (v780 : Value).ownBlock ∧ some k_ ≠ (.slice Ao44 t772.length co44 : Value).ownBlock ∧ some k_ ≠ (.slice Ao49 t775.length co49 : Value).ownBlock ∧ some k_ ≠ (.slice Ao72 t790.length co72 : Value).ownBlock ∧ some k_ ≠ (.slice Ao73 t793.length co73 : Value).ownBlock ∧ k_ ≠ gb747 ∧ k_ ≠ gb748 ∧ k_ ≠ gb771 ∧ k_ ≠ gb778) (Kd.S_keptB (O_772002.out) hkp (fun k_ hk_ hs_ => Or.elim hs_ (fun e_ => (hk_.1.1.1.2) e_) (fun e_ => (hk_.1.1.2) e_))) (fun k_ hk_ => ⟨hk_.1.1.1.1.1.1.1.1.1.1.1, hk_.1.1.1.1.1.1.1.1.1.1.2, hk_.1.1.1.1.2, hk_.1.1.1.2, hk_.1.1.2, hk_.1.2, hk_.1.1.1.1.1.1.1.1.2, hk_.1.1.1.1.1.1.1.2, hk_.1.1.1.1.1.1.2, hk_.1.1.1.1.1.2⟩)); replace B747 := Am (blk_kept B747.out hkp (fun hs_ => Or.elim hs_ (fun e_ => (fun e_ => (Kd.R_ne O_779000.out B747.out (by decide)) e_) e_) (fun e_ => (fun e_ => (Kd.R_ne O_779001.out B747.out (by decide)) e_) e_))); replace B748 := Am (blk_kept B748.out hkp (fun hs_ => Or.elim hs_ (fun e_ => (fun e_ => (Kd.R_ne O_779000.out B748.out (by decide)) e_) e_) (fun e_ => (fun e_ => (Kd.R_ne O_779001.out B748.out (by decide)) e_) e_))); replace B771 := Am (blk_kept B771.out hkp (fun hs_ => Or.elim hs_ (fun e_ => (fun e_ => (Kd.R_ne O_779000.out B771.out (by decide)) e_) e_) (fun e_ => (fun e_ => (Kd.R_ne O_779001.out B771.out (by decide)) e_) e_))); replace B778 := Am (blk_kept B778.out hkp (fun hs_ => Or.elim hs_ (fun e_ => (fun e_ => (Kd.R_ne O_779000.out B778.out (by decide)) e_) e_) (fun e_ => (fun e_ => (Kd.R_ne O_779001.out B778.out (by decide)) e_) e_))); replace O_779000 := Am (Kd.R_reok rfl hy0 (fun k_ e_ => O_779000.out.1 k_ e_)); replace O_779001 := Am (Kd.R_reok rfl hy1 (fun k_ e_ => O_779001.out.1 k_ e_)); replace HO792 := Am (Kd.R_mono (ok' := fun k_ => some k_ ≠ (.slice Ao44 t772.length co44 : Value).ownBlock ∧ some k_ ≠ (.slice Ao49 t775.length co49 : Value).ownBlock ∧ some k_ ≠ (.slice Ao73 t793.length co73 : Value).ownBlock) (Kd.R_keptB (HO792.out) hkp (fun k_ hk_ hs_ => Or.elim hs_ (fun e_ => (hk_.1) e_) (fun e_ => (hk_.2.1) e_))) (fun k_ hk_ => ⟨hk_.1.1, hk_.1.2.1, hk_.1.2.2⟩)); replace HO795 := Am (Kd.R_mono (ok' := fun k_ => some k_ ≠ (.slice Ao44 t772.length co44 : Value).ownBlock ∧ some k_ ≠ (.slice Ao49 t775.length co49 : Value).ownBlock ∧ some k_ ≠ (.slice Ao72 t790.length co72 : Value).ownBlock) (Kd.R_keptB (HO795.out) hkp (fun k_ hk_ hs_ => Or.elim hs_ (fun e_ => (hk_.1) e_) (fun e_ => (hk_.2.1) e_))) (fun k_ hk_ => ⟨hk_.1.1, hk_.1.2.1, hk_.1.2.2⟩)); replace HB := Am (hb); (try clear hb); (try clear hkp); (try clear hy0); (try clear hy1)))
   (try simp only [XW.q0, XW.q1, XW.q2])
   go_cut [86] (fun v86 wc => ∃ (kq : Nat) (x86_77 : Bool), v86 = .bool x86_77 ∧ Aside0 (laws_FnExactCircleOf.j1 kq a2 t762 t765 t779 x86_77 a0_0 a0_1 l0_2 l1_0 l1_1 = some true) ∧ Aside0 (kq ≤ kj23) ∧ Aside0 (Kd.R (Kd.int .i64) 3 wc w.heap.size (fun k_ => some k_ ≠ (v780 : Value).ownBlock) v763 t762) ∧ Aside0 (Kd.R (Kd.int .i64) 3 wc w.heap.size (fun k_ => some k_ ≠ (v763 : Value).ownBlock) v780 t779) ∧ Aside0 (Kd.S k113 113 wc w.heap.size (fun k_ => some k_ ≠ (v763 : Value).ownBlock ∧ some k_ ≠ (v780 : Value).ownBlock) (.slice Ao39 t768.length co39) t798) ∧ Aside0 (Kd.R k39 39 wc w.heap.size (fun k_ => some k_ ≠ ((.slice Ao49 t775.length co49) : Value).ownBlock) (.slice Ao44 t772.length co44) t800) ∧ Aside0 (Kd.R k39 39 wc w.heap.size (fun k_ => some k_ ≠ ((.slice Ao44 t772.length co44) : Value).ownBlock) (.slice Ao49 t775.length co49) t801) ∧ Aside0 (wc.heap[gb747]? = some (.cells #[.int .i64 a0_0, .int .i64 a0_1, (.slice A0_2 l0_2.length c0_2)] 24 (0, 0))) ∧ Aside0 (wc.heap[gb748]? = some (.cells #[(.slice A1_0 l1_0.length c1_0), (.slice A1_1 l1_1.length c1_1)] 49 (0, 0))) ∧ Aside0 (wc.heap[gb771]? = some (.cells #[.int .i64 t766, .int .i64 t767, (.slice Ao39 t768.length co39)] 35 (0, 0))) ∧ Aside0 (wc.heap[gb778]? = some (.cells #[(.slice Ao44 t772.length co44), (.slice Ao49 t775.length co49)] 53 (0, 0))) ∧ Aside0 (Below w.heap.size w wc))
   case first =>
    have H := HC78.out
    clear HC78
    obtain ⟨c88b0, H⟩ | ⟨c88b0, H⟩ := Xit H
    ·(first | rw [c88b0] | (simp only [i64_w, i32_w]; rw [c88b0]) | skip)
     have H' := Am H
     clear H
     go_wp2
     go_meet
     case rel => exact ⟨_, (true), Xr, H', ⟨by have := HJ23.out; first | omega | exact Nat.le_refl _⟩, (Xp' O_8), (Xp' O_12), ⟨by (with_reducible repeat (first | apply Kd.S_alloc | apply Kd.S_drewN | apply Kd.S_drew)); exact Kd.S_mono O_772002.out (fun _ hk => ⟨hk.1, hk.2.1⟩)⟩, ⟨by (with_reducible repeat (first | apply Kd.R_alloc | apply Kd.R_drewN | apply Kd.R_drew)); exact Kd.R_mono O_779000.out (fun _ hk => hk.1)⟩, ⟨by (with_reducible repeat (first | apply Kd.R_alloc | apply Kd.R_drewN | apply Kd.R_drew)); exact Kd.R_mono O_779001.out (fun _ hk => hk.1)⟩, B747, B748, B771, B778, ⟨Xi⟩⟩
    (first | rw [c88b0] | (simp only [i64_w, i32_w]; rw [c88b0]) | skip)
    obtain ⟨t802, A89, H⟩ := Xbi H
    try dsimp only at H
    by_cases c90 : t802 = true
    ·subst c90
     try rw [if_pos rfl] at H
     have H' := Am H
     clear H
     obtain ⟨Ao91, co91, eo91⟩ := Kd.R_slice O_12.out
     subst eo91
     obtain ⟨Ao92, co92, eo92⟩ := Kd.R_slice O_8.out
     subst eo92
     go_wp2_with (first | (go_at_call 14; (with_reducible refine (laws_eqIntS.calls kj23 _ _ t779 _ _ t762 true _ ?s1 ?s2 ?s3 ?s4 A89.out).mono ?_); (case s1 => exact Xcd (Kd.R_reads' O_12.out).2.2); (case s2 => exact (Kd.R_reads' O_12.out).2.1); (case s3 => exact Xcd (Kd.R_reads' O_8.out).2.2); (case s4 => exact (Kd.R_reads' O_8.out).2.1); rintro e w' ⟨rfl, ⟨nd, rfl⟩⟩))
     go_meet
     case rel => exact ⟨_, ((t782 != t765)), Xr, H', ⟨by have := HJ23.out; first | omega | exact Nat.le_refl _⟩, (Xp' O_8), (Xp' O_12), ⟨by (with_reducible repeat (first | apply Kd.S_alloc | apply Kd.S_drewN | apply Kd.S_drew)); exact Kd.S_mono O_772002.out (fun _ hk => ⟨hk.1, hk.2.1⟩)⟩, ⟨by (with_reducible repeat (first | apply Kd.R_alloc | apply Kd.R_drewN | apply Kd.R_drew)); exact Kd.R_mono O_779000.out (fun _ hk => hk.1)⟩, ⟨by (with_reducible repeat (first | apply Kd.R_alloc | apply Kd.R_drewN | apply Kd.R_drew)); exact Kd.R_mono O_779001.out (fun _ hk => hk.1)⟩, B747, B748, B771, B778, ⟨Xi⟩⟩
    replace c90 := Xbf c90
    subst c90
    try rw [if_neg Xft] at H
    have H' := Am H
    clear H
    obtain ⟨Ao93, co93, eo93⟩ := Kd.R_slice O_12.out
    subst eo93
    obtain ⟨Ao94, co94, eo94⟩ := Kd.R_slice O_8.out
    subst eo94
    go_wp2_with (first | (go_at_call 14; (with_reducible refine (laws_eqIntS.calls kj23 _ _ t779 _ _ t762 false _ ?s1 ?s2 ?s3 ?s4 A89.out).mono ?_); (case s1 => exact Xcd (Kd.R_reads' O_12.out).2.2); (case s2 => exact (Kd.R_reads' O_12.out).2.1); (case s3 => exact Xcd (Kd.R_reads' O_8.out).2.2); (case s4 => exact (Kd.R_reads' O_8.out).2.1); rintro e w' ⟨rfl, ⟨nd, rfl⟩⟩))
    go_meet
    case rel => exact ⟨_, (true), Xr, H', ⟨by have := HJ23.out; first | omega | exact Nat.le_refl _⟩, (Xp' O_8), (Xp' O_12), ⟨by (with_reducible repeat (first | apply Kd.S_alloc | apply Kd.S_drewN | apply Kd.S_drew)); exact Kd.S_mono O_772002.out (fun _ hk => ⟨hk.1, hk.2.1⟩)⟩, ⟨by (with_reducible repeat (first | apply Kd.R_alloc | apply Kd.R_drewN | apply Kd.R_drew)); exact Kd.R_mono O_779000.out (fun _ hk => hk.1)⟩, ⟨by (with_reducible repeat (first | apply Kd.R_alloc | apply Kd.R_drewN | apply Kd.R_drew)); exact Kd.R_mono O_779001.out (fun _ hk => hk.1)⟩, B747, B748, B771, B778, ⟨Xi⟩⟩
   clear HC78
   (try clear c11); (try clear c11b0); (try clear c17); (try clear c17b0); (try clear c58); (try clear c66); (try clear c75); (try clear Z15_0); (try clear Z15_1); (try clear Z33_0); (try clear Z33_1); (try clear Z33_2); (try clear Z38_0); (try clear Z38_1); (try clear Z38_2); (try clear Z41_0); (try clear Z41_1); (try clear Z48_0); (try clear Z48_1); (try clear Z50_0); (try clear Z50_1); (try clear Z50_2); (try clear Z82_0); (try clear Z82_1); (try clear Z82_2); (try clear Z86_0); (try clear Z86_1); (try clear Z9_0); (try clear Z9_1); (try clear Z9_2); (try clear F15_0); (try clear F15_1); (try clear F33_0); (try clear F33_1); (try clear F33_2); (try clear F38_0); (try clear F38_1); (try clear F38_2); (try clear F41_0); (try clear F41_1); (try clear F48_0); (try clear F48_1); (try clear F50_0); (try clear F50_1); (try clear F50_2); (try clear F82_0); (try clear F82_1); (try clear F82_2); (try clear F86_0); (try clear F86_1); (try clear F9_0); (try clear F9_1); (try clear F9_2)
   (try clear O_8); (try clear O_12); (try clear O_772002); (try clear O_779000); (try clear O_779001)
   obtain ⟨kq, x86_77, rfl, HA, HJ77, O_8, O_12, O_772002, O_779000, O_779001, B747, B748, B771, B778, HB⟩ := hcut
   have hl772002_77 := (Kd.S_reads' O_772002.out).1
   rw [hl772002_77] at O_772002
   (try simp only [hl772002_77])
   (try simp only [hl772002_77] at B747)
   (try simp only [hl772002_77] at B748)
   (try simp only [hl772002_77] at B771)
   (try simp only [hl772002_77] at B778)
   (try simp only [hl772002_77] at O_8)
   (try simp only [hl772002_77] at O_12)
   (try simp only [hl772002_77] at O_779000)
   (try simp only [hl772002_77] at O_779001)
   have hl779000_77 := (Kd.R_reads' O_779000.out).1
   rw [hl779000_77] at O_779000
   (try simp only [hl779000_77])
   (try simp only [hl779000_77] at B747)
   (try simp only [hl779000_77] at B748)
   (try simp only [hl779000_77] at B771)
   (try simp only [hl779000_77] at B778)
   (try simp only [hl779000_77] at O_8)
   (try simp only [hl779000_77] at O_12)
   (try simp only [hl779000_77] at O_772002)
   (try simp only [hl779000_77] at O_779001)
   have hl779001_77 := (Kd.R_reads' O_779001.out).1
   rw [hl779001_77] at O_779001
   (try simp only [hl779001_77])
   (try simp only [hl779001_77] at B747)
   (try simp only [hl779001_77] at B748)
   (try simp only [hl779001_77] at B771)
   (try simp only [hl779001_77] at B778)
   (try simp only [hl779001_77] at O_8)
   (try simp only [hl779001_77] at O_12)
   (try simp only [hl779001_77] at O_772002)
   (try simp only [hl779001_77] at O_779000)
   cases kq with | zero => cases HA.out | succ kj77 => ?_
   have H := HA.out
   clear HA
   simp only [laws_FnExactCircleOf.j1] at H
   by_cases c95 : x86_77 = true
   ·subst c95
    try rw [if_pos rfl] at H
    cases H
   replace c95 := Xbf c95
   subst c95
   try rw [if_neg Xft] at H
   replace H := Option.bind_eq_some_iff.mp H
   obtain ⟨⟨t803, t804⟩, A960, H⟩ := H
   try dsimp only at H
   have A96 := Am A960
   clear A960
   obtain ⟨t805, A97, H⟩ := Xbi H
   try dsimp only at H
   have HC98 := Am H
   clear H
   obtain ⟨Ao99, co99, eo99⟩ := Kd.R_slice O_12.out
   subst eo99
   go_upto_if 94 with (first | ((with_reducible refine gate_callee (f := 19) rfl ?_); refine Xgo 89 Tryz.func19 #[.slice Ao99 t779.length co99, .int .i64 1] ?_; (with_reducible refine (laws_markIntS.calls kj77 (fun k_ => some k_ = (.slice Ao99 t779.length co99 : Value).ownBlock) (.slice Ao99 t779.length co99) t779 1 t803 t804 w _ ?s1 ?s2 A96.out).mono ?_); (case s1 => exact Xi); (case s2 => exact Kd.R_tight rfl O_12.out); rintro e w100 ⟨rfl, hy0, hb, hkp⟩; refine ⟨_, rfl, ?_⟩; replace O_8 := Am (Kd.R_mono (ok' := fun k_ => some k_ ≠ (.slice Ao99 t779.length co99 : Value).ownBlock) (Kd.R_keptB (O_8.out) hkp (fun k_ hk_ hs_ => (hk_) hs_)) (fun k_ hk_ => hk_.1)); replace O_772002 := Am (Kd.S_mono (ok' := fun k_ => some k_ ≠ (v763 : Value).ownBlock ∧ some k_ ≠ (.slice Ao99 t779.length co99 : Value).ownBlock) (Kd.S_keptB (O_772002.out) hkp (fun k_ hk_ hs_ => (hk_.2) hs_)) (fun k_ hk_ => ⟨hk_.1.1, hk_.1.2⟩)); replace O_779000 := Am (Kd.R_mono (ok' := fun k_ => some k_ ≠ (.slice Ao49 t801.length co49 : Value).ownBlock) (Kd.R_keptB ((Kd.R_apart' O_779000.out (Kd.R_typed O_12.out) (by decide))) hkp (fun k_ hk_ hs_ => (hk_.2) hs_)) (fun k_ hk_ => hk_.1.1)); replace O_779001 := Am (Kd.R_mono (ok' := fun k_ => some k_ ≠ (.slice Ao44 t800.length co44 : Value).ownBlock) (Kd.R_keptB ((Kd.R_apart' O_779001.out (Kd.R_typed O_12.out) (by decide))) hkp (fun k_ hk_ hs_ => (hk_.2) hs_)) (fun k_ hk_ => hk_.1.1)); replace B747 := Am (blk_kept B747.out hkp (fun hs_ => (fun e_ => (Kd.R_ne O_12.out B747.out (by decide)) e_) hs_)); replace B748 := Am (blk_kept B748.out hkp (fun hs_ => (fun e_ => (Kd.R_ne O_12.out B748.out (by decide)) e_) hs_)); replace B771 := Am (blk_kept B771.out hkp (fun hs_ => (fun e_ => (Kd.R_ne O_12.out B771.out (by decide)) e_) hs_)); replace B778 := Am (blk_kept B778.out hkp (fun hs_ => (fun e_ => (Kd.R_ne O_12.out B778.out (by decide)) e_) hs_)); replace O_12 := Am (Kd.R_reok rfl hy0 (fun k_ e_ => O_12.out.1 k_ e_)); replace HB := Am (hb); (try clear hb); (try clear hkp); (try clear hy0)) | ((with_reducible refine gate_callee (f := 20) rfl ?_); refine goesL_ (some 92) rfl rfl Tryz.func20 (by kernel_rfl) rfl #[.slice Ao99 t804.length co99, .int .i64 1] rfl (by (try simp only [List.map_toArray, List.map_cons, List.map_nil]); first | done | (rw [show t804.length = t779.length from (Kd.R_reads' O_12.out).1.symm] <;> rfl) | rfl | (simp only [List.length_drop, List.length_take]; rfl)) ?_; (with_reducible refine (laws_heldIntS.calls kj77 _ _ t804 1 t805 _ ?s1 ?s2 A97.out).mono ?_); (case s1 => exact Xcd (Kd.R_reads' O_12.out).2.2); (case s2 => rw [show t804.length = t779.length from (Kd.R_reads' O_12.out).1.symm]; exact (Kd.R_reads' O_12.out).2.1); rintro e w' ⟨rfl, ⟨nd, rfl⟩⟩; refine ⟨_, rfl, ?_⟩))
   (try (rw [drewN_self w100]; generalize hq_ : World.drewN w100 _ = w100; have n0_ : Aside0 (Kd.R (Kd.int .i64) 3 w100 w.heap.size (fun k_ => some k_ ≠ (v763 : Value).ownBlock) (.slice Ao99 t779.length co99) t804) := ⟨by rw [← hq_]; exact (Xq O_12)⟩; have n1_ : Aside0 (Kd.S k113 113 w100 w.heap.size (fun k_ => some k_ ≠ (v763 : Value).ownBlock ∧ some k_ ≠ (.slice Ao99 t779.length co99 : Value).ownBlock) (.slice Ao39 t798.length co39) t798) := ⟨by rw [← hq_]; exact (Xq O_772002)⟩; have n2_ : Aside0 (Kd.R k39 39 w100 w.heap.size (fun k_ => some k_ ≠ (.slice Ao49 t801.length co49 : Value).ownBlock) (.slice Ao44 t800.length co44) t800) := ⟨by rw [← hq_]; exact (Xq O_779000)⟩; have n3_ : Aside0 (Kd.R k39 39 w100 w.heap.size (fun k_ => some k_ ≠ (.slice Ao44 t800.length co44 : Value).ownBlock) (.slice Ao49 t801.length co49) t801) := ⟨by rw [← hq_]; exact (Xq O_779001)⟩; have n4_ : Aside0 (Kd.R (Kd.int .i64) 3 w100 w.heap.size (fun k_ => some k_ ≠ (.slice Ao99 t779.length co99 : Value).ownBlock) v763 t762) := ⟨by rw [← hq_]; exact (Xq O_8)⟩; have n5_ : Aside0 (w100.heap[gb747]? = some (.cells #[.int .i64 a0_0, .int .i64 a0_1, .slice A0_2 l0_2.length c0_2] 24 (0, 0))) := ⟨by rw [← hq_]; exact B747.out⟩; have n6_ : Aside0 (w100.heap[gb748]? = some (.cells #[.slice A1_0 l1_0.length c1_0, .slice A1_1 l1_1.length c1_1] 49 (0, 0))) := ⟨by rw [← hq_]; exact B748.out⟩; have n7_ : Aside0 (w100.heap[gb771]? = some (.cells #[.int .i64 t766, .int .i64 t767, .slice Ao39 t798.length co39] 35 (0, 0))) := ⟨by rw [← hq_]; exact B771.out⟩; have n8_ : Aside0 (w100.heap[gb778]? = some (.cells #[.slice Ao44 t800.length co44, .slice Ao49 t801.length co49] 53 (0, 0))) := ⟨by rw [← hq_]; exact B778.out⟩; have n9_ : Aside0 (Below w.heap.size w w100) := ⟨by rw [← hq_]; exact Xi⟩; clear O_12 O_772002 O_779000 O_779001 O_8 B747 B748 B771 B778 HB hq_; have O_12 := n0_; have O_772002 := n1_; have O_779000 := n2_; have O_779001 := n3_; have O_8 := n4_; have B747 := n5_; have B748 := n6_; have B771 := n7_; have B778 := n8_; have HB := n9_; clear n0_ n1_ n2_ n3_ n4_ n5_ n6_ n7_ n8_ n9_))
   have H := HC98.out
   clear HC98
   obtain ⟨c101b0, H⟩ | ⟨c101b0, H⟩ := Xit H
   ·(first | rw [c101b0] | (simp only [i64_w, i32_w]; rw [c101b0]) | skip)
    cases H
   (first | rw [c101b0] | (simp only [i64_w, i32_w]; rw [c101b0]) | skip)
   obtain ⟨c102, H⟩ | ⟨c102, H⟩ := Xiu H
   ·have c102b0 : (t805 == t803) = true := beq_iff_eq.mpr c102
    have c102b1 : (t805 != t803) = false := bne_eq_false_iff_eq.mpr c102
    clear c102
    replace H := Option.bind_eq_some_iff.mp H
    obtain ⟨⟨t806, t807, t808⟩, A1030, H⟩ := H
    try dsimp only at H
    have A103 := Am A1030
    clear A1030
    replace H := Option.bind_eq_some_iff.mp H
    obtain ⟨⟨t811, t814⟩, A1040, H⟩ := H
    try dsimp only at H
    have A104 := Am A1040
    clear A1040
    replace H := Option.bind_eq_some_iff.mp H
    obtain ⟨⟨t817, t820⟩, A1050, H⟩ := H
    try dsimp only at H
    have A105 := Am A1050
    clear A1050
    have HC106 := Am H
    clear H
    try go_wp2
    replace O_8 := Am (Kd.R_drew O_8.out)
    replace O_12 := Am (Kd.R_drew O_12.out)
    replace O_772002 := Am (Kd.S_drew O_772002.out)
    replace O_779000 := Am (Kd.R_drew O_779000.out)
    replace O_779001 := Am (Kd.R_drew O_779001.out)
    replace B747 := Xbd B747
    replace B748 := Xbd B748
    replace B771 := Xbd B771
    replace B778 := Xbd B778
    replace HB := Xhd HB
    refine Sx 11 (fun w' => w'.cell? ⟨gb747, 0, none⟩ = some (.int .i64 a0_0) ∧ w'.cell? ⟨gb747, 1, none⟩ = some (.int .i64 a0_1) ∧ w'.cell? ⟨gb747, 2, none⟩ = some (.slice A0_2 l0_2.length c0_2) ∧ w'.cell? ⟨gb748, 0, none⟩ = some (.slice A1_0 l1_0.length c1_0) ∧ w'.cell? ⟨gb748, 1, none⟩ = some (.slice A1_1 l1_1.length c1_1)) ⟨Xk B747 0, Xk B747 1, Xk B747 2, Xk B748 0, Xk B748 1⟩ (fun hHeld => ?_); refine with_tabW laws_FnExactCircleOf.tab31 laws_FnExactCircleOf.bits31 (fun HT_ HW_ => ?_)
    generalize w100.drew = w107 at O_8 O_12 O_772002 O_779000 O_779001 B747 B748 B771 B778 HB hHeld ⊢
    refine Pu 4 103 11 16 ?_
    refine Ta 0 99 11 17 ?_
    refine Ta 2 101 11 21 ?_
    refine On 1 100 11 23 (fun K hK => ?_)
    refine Gs Tryz.func10 #[.agg #[.int .i64 a0_0, .int .i64 a0_1, .slice A0_2 l0_2.length c0_2]] ?_
    with_reducible refine (laws_toDoc.calls kj77 a0_0 a0_1 _ _ l0_2 t806 t807 t808 _ ?s1 ?s2 A103.out).mono ?_
    (case s1 => exact Xc HR0_2)
    (case s2 => exact HC0_2.out)
    rintro e w108 ⟨v809, rfl, ho0, hb⟩
    refine ⟨_, rfl, ?_⟩
    replace O_779000 := Am (Kd.R_below (Xq O_779000) hb)
    replace O_779001 := Am (Kd.R_below (Xq O_779001) hb)
    have HO810 := Am (Kd.S_lower (Kd.S_new' (Kd.S_new' (Kd.S_new' ho0 (Kd.R_lt (Xq O_8))) (Kd.R_lt (Xq O_12))) (Kd.S_lt (Xq O_772002))) (below_size Xi))
    replace O_8 := Am (Kd.R_below (Xq O_8) hb)
    replace O_12 := Am (Kd.R_below (Xq O_12) hb)
    replace O_772002 := Am (Kd.S_elder' (Xq O_772002) (Kd.S_base ho0) hb)
    replace B747 := Xbb B747 hb
    replace B748 := Xbb B748 hb
    replace B771 := Xbb B771 hb
    replace B778 := Xbb B778 hb
    replace HB := Xhb hb
    try clear hb
    try clear hb2
    try clear hk
    try clear hi
    try clear ho0
    refine hK.out _ _ ⟨Xk B747 0, Xk B747 1, Xk B747 2, Xk B748 0, Xk B748 1⟩ (fun hHeld => ?_)
    clear hK K
    refine Xno ?_
    refine On 3 102 11 31 (fun K hK => ?_)
    refine Gs Tryz.func23 #[.agg #[.slice A1_0 l1_0.length c1_0, .slice A1_1 l1_1.length c1_1]] ?_
    with_reducible refine (laws_toTable.calls kj77 _ _ l1_0 _ _ l1_1 t811 t814 _ ?s1 ?s2 ?s3 ?s4 A104.out).mono ?_
    (case s1 => exact Xc HR1_0)
    (case s2 => exact HC1_0.out)
    (case s3 => exact Xc HR1_1)
    (case s4 => exact HC1_1.out)
    rintro e w109 ⟨v812, v815, rfl, ho0, ho1, hb⟩
    refine ⟨_, rfl, ?_⟩
    replace O_8 := Am (Kd.R_below (Xq O_8) hb)
    replace O_12 := Am (Kd.R_below (Xq O_12) hb)
    replace O_772002 := Am (Kd.S_below (Xq O_772002) hb)
    replace HO810 := Am (Kd.S_below (Xq HO810) hb)
    have HO813 := Am (Kd.R_lower (Kd.R_new' (Kd.R_new' ho0 (Kd.R_lt (Xq O_779000))) (Kd.R_lt (Xq O_779001))) (below_size Xi))
    have HO816 := Am (Kd.R_lower (Kd.R_new' (Kd.R_new' ho1 (Kd.R_lt (Xq O_779000))) (Kd.R_lt (Xq O_779001))) (below_size Xi))
    replace O_779000 := Am (Kd.R_mono (Kd.R_told (Kd.R_told (Kd.R_old (Xq O_779000) hb) (Kd.R_base ho0)) (Kd.R_base ho1)) (fun _ h_ => h_.1))
    replace O_779001 := Am (Kd.R_mono (Kd.R_told (Kd.R_told (Kd.R_old (Xq O_779001) hb) (Kd.R_base ho0)) (Kd.R_base ho1)) (fun _ h_ => h_.1))
    replace B747 := Xbb B747 hb
    replace B748 := Xbb B748 hb
    replace B771 := Xbb B771 hb
    replace B778 := Xbb B778 hb
    replace HB := Xhb hb
    try clear hb
    try clear hb2
    try clear hk
    try clear hi
    try clear ho0
    try clear ho1
    obtain ⟨Ao110, co110, eo110⟩ := Kd.S_slice HO810.out
    (first | subst eo110 | (injection eo110 with f1_ f2_ f3_; have f4_ := f1_.symm; have f5_ := f3_.symm; clear f1_ f2_ f3_; subst f4_; subst f5_))
    obtain ⟨Ao111, co111, eo111⟩ := Kd.R_slice HO813.out
    (first | subst eo111 | (injection eo111 with f1_ f2_ f3_; have f4_ := f1_.symm; have f5_ := f3_.symm; clear f1_ f2_ f3_; subst f4_; subst f5_))
    obtain ⟨Ao112, co112, eo112⟩ := Kd.R_slice HO816.out
    (first | subst eo112 | (injection eo112 with f1_ f2_ f3_; have f4_ := f1_.symm; have f5_ := f3_.symm; clear f1_ f2_ f3_; subst f4_; subst f5_))
    refine hK.out _ _ ⟨Xk B747 0, Xk B747 1, Xk B747 2, Xk B748 0, Xk B748 1⟩ (fun hHeld => ?_)
    clear hK K
    refine Xno ?_
    refine On 5 104 11 63 (fun K hK => ?_)
    refine Gs Tryz.func28 #[.agg #[.int .i64 t806, .int .i64 t807, .slice Ao110 t808.length co110], .agg #[.slice Ao111 t811.length co111, .slice Ao112 t814.length co112], .int .i64 a2] ?_
    with_reducible refine (impl_CircleOf.calls kj77 t806 t807 _ _ t808 _ _ t811 _ _ t814 a2 t817 t820 _ ?s1 ?s2 ?s3 ?s4 ?s5 ?s6 A105.out).mono ?_
    (case s1 => exact Xcd (Kd.S_reads' HO810.out).2.2)
    (case s2 => exact (Kd.S_reads' HO810.out).2.1)
    (case s3 => exact Xcd (Kd.R_reads' HO813.out).2.2)
    (case s4 => exact (Kd.R_reads' HO813.out).2.1)
    (case s5 => exact Xcd (Kd.R_reads' HO816.out).2.2)
    (case s6 => exact (Kd.R_reads' HO816.out).2.1)
    rintro e w113 ⟨v818, rfl, ho0, hb⟩
    refine ⟨_, rfl, ?_⟩
    replace O_772002 := Am (Kd.S_elder' (Xq O_772002) (Kd.R_base ho0) hb)
    replace O_779000 := Am (Kd.R_below (Xq O_779000) hb)
    replace O_779001 := Am (Kd.R_below (Xq O_779001) hb)
    replace HO810 := Am (Kd.S_elder' (Xq HO810) (Kd.R_base ho0) hb)
    replace HO813 := Am (Kd.R_below (Xq HO813) hb)
    replace HO816 := Am (Kd.R_below (Xq HO816) hb)
    have HO819 := Am (Kd.R_lower (Kd.R_new' (Kd.R_new' ho0 (Kd.R_lt (Xq O_8))) (Kd.R_lt (Xq O_12))) (below_size Xi))
    replace O_8 := Am (Kd.R_elder' (Xq O_8) (Kd.R_base ho0) hb)
    replace O_12 := Am (Kd.R_elder' (Xq O_12) (Kd.R_base ho0) hb)
    replace B747 := Xbb B747 hb
    replace B748 := Xbb B748 hb
    replace B771 := Xbb B771 hb
    replace B778 := Xbb B778 hb
    replace HB := Xhb hb
    try clear hb
    try clear hb2
    try clear hk
    try clear hi
    try clear ho0
    refine hK.out _ _ ⟨Xk B747 0, Xk B747 1, Xk B747 2, Xk B748 0, Xk B748 1⟩ (fun hHeld => ?_)
    clear hK K
    refine Xno ?_
    refine Pu 6 98 11 127 ?_
    refine Pu 7 105 11 255 ?_
    refine Pu 8 106 11 511 ?_
    refine Pu 9 17 11 1023 ?_
    refine Pu 10 18 11 2047 ?_
    refine Dn ?_
    go_upto_region 32 with (fail)
    go_cut [115] (fun v115 wc => ∃ (kq : Nat) (x115_105 : Bool), v115 = .bool x115_105 ∧ Aside0 (laws_FnExactCircleOf.j2 kq t804 t803 x115_105 = some true) ∧ Aside0 (kq ≤ kj77) ∧ Aside0 (Kd.R (Kd.int .i64) 3 wc w.heap.size (fun _ => True) (.slice Ao99 t779.length co99) t804) ∧ Aside0 (Kd.S k113 113 wc w.heap.size (fun k_ => some k_ ≠ ((.slice Ao99 t779.length co99) : Value).ownBlock) (.slice Ao39 t798.length co39) t798) ∧ Aside0 (Kd.R k39 39 wc w.heap.size (fun k_ => some k_ ≠ ((.slice Ao49 t801.length co49) : Value).ownBlock) (.slice Ao44 t800.length co44) t800) ∧ Aside0 (Kd.R k39 39 wc w.heap.size (fun k_ => some k_ ≠ ((.slice Ao44 t800.length co44) : Value).ownBlock) (.slice Ao49 t801.length co49) t801) ∧ Aside0 (wc.heap[gb747]? = some (.cells #[.int .i64 a0_0, .int .i64 a0_1, (.slice A0_2 l0_2.length c0_2)] 24 (0, 0))) ∧ Aside0 (wc.heap[gb748]? = some (.cells #[(.slice A1_0 l1_0.length c1_0), (.slice A1_1 l1_1.length c1_1)] 49 (0, 0))) ∧ Aside0 (wc.heap[gb771]? = some (.cells #[.int .i64 t766, .int .i64 t767, (.slice Ao39 t798.length co39)] 35 (0, 0))) ∧ Aside0 (wc.heap[gb778]? = some (.cells #[(.slice Ao44 t800.length co44), (.slice Ao49 t801.length co49)] 53 (0, 0))) ∧ Aside0 (Below w.heap.size w wc))
    case first =>
     have H := HC106.out
     clear HC106
     obtain ⟨t821, A114, H⟩ := Xbi H
     try dsimp only at H
     by_cases c115 : t821 = true
     ·subst c115
      try rw [if_pos rfl] at H
      have H' := Am H
      clear H
      obtain ⟨Ao116, co116, eo116⟩ := Kd.R_slice HO819.out
      subst eo116
      obtain ⟨Ao117, co117, eo117⟩ := Kd.R_slice O_8.out
      subst eo117
      go_wp2_with (first | ((with_reducible refine gate_callee (f := 14) rfl ?_); refine Xgo 109 Tryz.func14 #[.slice Ao116 t817.length co116, .slice Ao117 t762.length co117] ?_; (with_reducible refine (laws_eqIntS.calls kj77 _ _ t817 _ _ t762 true _ ?s1 ?s2 ?s3 ?s4 A114.out).mono ?_); (case s1 => exact Xcd (Kd.R_reads' HO819.out).2.2); (case s2 => exact (Kd.R_reads' HO819.out).2.1); (case s3 => exact Xcd (Kd.R_reads' O_8.out).2.2); (case s4 => exact (Kd.R_reads' O_8.out).2.1); rintro e w' ⟨rfl, ⟨nd, rfl⟩⟩; refine ⟨_, rfl, ?_⟩))
      go_meet
      case rel => exact ⟨_, ((t820 != t765)), Xr, H', ⟨by have := HJ23.out; have := HJ77.out; first | omega | exact Nat.le_refl _⟩, ⟨by (try simp only [hl772002_77]); (try simp only [hl779000_77]); (try simp only [hl779001_77]); (with_reducible repeat (first | apply Kd.R_alloc | apply Kd.R_drewN | apply Kd.R_drew)); exact Kd.R_mono O_12.out (fun _ hk => trivial)⟩, ⟨by (try simp only [hl772002_77]); (try simp only [hl779000_77]); (try simp only [hl779001_77]); (with_reducible repeat (first | apply Kd.S_alloc | apply Kd.S_drewN | apply Kd.S_drew)); exact Kd.S_mono O_772002.out (fun _ hk => hk.1.1.2)⟩, ⟨by (try simp only [hl772002_77]); (try simp only [hl779000_77]); (try simp only [hl779001_77]); (with_reducible repeat (first | apply Kd.R_alloc | apply Kd.R_drewN | apply Kd.R_drew)); exact Kd.R_mono O_779000.out (fun _ hk => hk.1.1)⟩, ⟨by (try simp only [hl772002_77]); (try simp only [hl779000_77]); (try simp only [hl779001_77]); (with_reducible repeat (first | apply Kd.R_alloc | apply Kd.R_drewN | apply Kd.R_drew)); exact Kd.R_mono O_779001.out (fun _ hk => hk.1.1)⟩, ⟨by (try simp only [hl772002_77]); (try simp only [hl779000_77]); (try simp only [hl779001_77]); exact B747.out⟩, ⟨by (try simp only [hl772002_77]); (try simp only [hl779000_77]); (try simp only [hl779001_77]); exact B748.out⟩, ⟨by (try simp only [hl772002_77]); (try simp only [hl779000_77]); (try simp only [hl779001_77]); exact B771.out⟩, ⟨by (try simp only [hl772002_77]); (try simp only [hl779000_77]); (try simp only [hl779001_77]); exact B778.out⟩, ⟨Xi⟩⟩
     replace c115 := Xbf c115
     subst c115
     try rw [if_neg Xft] at H
     have H' := Am H
     clear H
     obtain ⟨Ao118, co118, eo118⟩ := Kd.R_slice HO819.out
     subst eo118
     obtain ⟨Ao119, co119, eo119⟩ := Kd.R_slice O_8.out
     subst eo119
     go_wp2_with (first | ((with_reducible refine gate_callee (f := 14) rfl ?_); refine Xgo 109 Tryz.func14 #[.slice Ao118 t817.length co118, .slice Ao119 t762.length co119] ?_; (with_reducible refine (laws_eqIntS.calls kj77 _ _ t817 _ _ t762 false _ ?s1 ?s2 ?s3 ?s4 A114.out).mono ?_); (case s1 => exact Xcd (Kd.R_reads' HO819.out).2.2); (case s2 => exact (Kd.R_reads' HO819.out).2.1); (case s3 => exact Xcd (Kd.R_reads' O_8.out).2.2); (case s4 => exact (Kd.R_reads' O_8.out).2.1); rintro e w' ⟨rfl, ⟨nd, rfl⟩⟩; refine ⟨_, rfl, ?_⟩))
     go_meet
     case rel => exact ⟨_, (true), Xr, H', ⟨by have := HJ23.out; have := HJ77.out; first | omega | exact Nat.le_refl _⟩, ⟨by (try simp only [hl772002_77]); (try simp only [hl779000_77]); (try simp only [hl779001_77]); (with_reducible repeat (first | apply Kd.R_alloc | apply Kd.R_drewN | apply Kd.R_drew)); exact Kd.R_mono O_12.out (fun _ hk => trivial)⟩, ⟨by (try simp only [hl772002_77]); (try simp only [hl779000_77]); (try simp only [hl779001_77]); (with_reducible repeat (first | apply Kd.S_alloc | apply Kd.S_drewN | apply Kd.S_drew)); exact Kd.S_mono O_772002.out (fun _ hk => hk.1.1.2)⟩, ⟨by (try simp only [hl772002_77]); (try simp only [hl779000_77]); (try simp only [hl779001_77]); (with_reducible repeat (first | apply Kd.R_alloc | apply Kd.R_drewN | apply Kd.R_drew)); exact Kd.R_mono O_779000.out (fun _ hk => hk.1.1)⟩, ⟨by (try simp only [hl772002_77]); (try simp only [hl779000_77]); (try simp only [hl779001_77]); (with_reducible repeat (first | apply Kd.R_alloc | apply Kd.R_drewN | apply Kd.R_drew)); exact Kd.R_mono O_779001.out (fun _ hk => hk.1.1)⟩, ⟨by (try simp only [hl772002_77]); (try simp only [hl779000_77]); (try simp only [hl779001_77]); exact B747.out⟩, ⟨by (try simp only [hl772002_77]); (try simp only [hl779000_77]); (try simp only [hl779001_77]); exact B748.out⟩, ⟨by (try simp only [hl772002_77]); (try simp only [hl779000_77]); (try simp only [hl779001_77]); exact B771.out⟩, ⟨by (try simp only [hl772002_77]); (try simp only [hl779000_77]); (try simp only [hl779001_77]); exact B778.out⟩, ⟨Xi⟩⟩
    clear HC106
    (try clear c11); (try clear c11b0); (try clear c17); (try clear c17b0); (try clear c58); (try clear c66); (try clear c75); (try clear c95); (try clear c101); (try clear c101b0); (try clear c102); (try clear c102b0); (try clear c102b1); (try clear Z15_0); (try clear Z15_1); (try clear Z33_0); (try clear Z33_1); (try clear Z33_2); (try clear Z38_0); (try clear Z38_1); (try clear Z38_2); (try clear Z41_0); (try clear Z41_1); (try clear Z48_0); (try clear Z48_1); (try clear Z50_0); (try clear Z50_1); (try clear Z50_2); (try clear Z82_0); (try clear Z82_1); (try clear Z82_2); (try clear Z86_0); (try clear Z86_1); (try clear Z9_0); (try clear Z9_1); (try clear Z9_2); (try clear F15_0); (try clear F15_1); (try clear F33_0); (try clear F33_1); (try clear F33_2); (try clear F38_0); (try clear F38_1); (try clear F38_2); (try clear F41_0); (try clear F41_1); (try clear F48_0); (try clear F48_1); (try clear F50_0); (try clear F50_1); (try clear F50_2); (try clear F82_0); (try clear F82_1); (try clear F82_2); (try clear F86_0); (try clear F86_1); (try clear F9_0); (try clear F9_1); (try clear F9_2)
    (try clear O_12); (try clear O_772002); (try clear O_779000); (try clear O_779001)
    obtain ⟨kq, x115_105, rfl, HA, HJ105, O_12, O_772002, O_779000, O_779001, B747, B748, B771, B778, HB⟩ := hcut
    have hl12_105 := (Kd.R_reads' O_12.out).1
    rw [hl12_105] at O_12
    (try simp only [hl12_105])
    (try simp only [hl12_105] at B747)
    (try simp only [hl12_105] at B748)
    (try simp only [hl12_105] at B771)
    (try simp only [hl12_105] at B778)
    (try simp only [hl12_105] at O_772002)
    (try simp only [hl12_105] at O_779000)
    (try simp only [hl12_105] at O_779001)
    cases kq with | zero => cases HA.out | succ kj105 => ?_
    have H := HA.out
    clear HA
    simp only [laws_FnExactCircleOf.j2] at H
    by_cases c120 : x115_105 = true
    ·subst c120
     try rw [if_pos rfl] at H
     cases H
    replace c120 := Xbf c120
    subst c120
    try rw [if_neg Xft] at H
    obtain ⟨t822, A121, H⟩ := Xbi H
    try dsimp only at H
    have HC122 := Am H
    clear H
    go_upto_if 120 with ((with_reducible refine gate_callee (f := 20) rfl ?_); refine Xgo 118 Tryz.func20 #[.slice Ao99 t804.length co99, .int .i64 1] ?_; (with_reducible refine (laws_heldIntS.calls kj105 _ _ t804 1 t822 _ ?s1 ?s2 A121.out).mono ?_); (case s1 => exact Xcd (Kd.R_reads' O_12.out).2.2); (case s2 => exact (Kd.R_reads' O_12.out).2.1); rintro e w' ⟨rfl, ⟨nd, rfl⟩⟩; refine ⟨_, rfl, ?_⟩)
    (try (rw [drewN_self wc]; generalize hq_ : World.drewN wc _ = wc; have n0_ : Aside0 (Kd.R (Kd.int .i64) 3 wc w.heap.size (fun _ => True) (.slice Ao99 t804.length co99) t804) := ⟨by rw [← hq_]; exact (Xq O_12)⟩; have n1_ : Aside0 (Kd.S k113 113 wc w.heap.size (fun k_ => some k_ ≠ (.slice Ao99 t804.length co99 : Value).ownBlock) (.slice Ao39 t798.length co39) t798) := ⟨by rw [← hq_]; exact (Xq O_772002)⟩; have n2_ : Aside0 (Kd.R k39 39 wc w.heap.size (fun k_ => some k_ ≠ (.slice Ao49 t801.length co49 : Value).ownBlock) (.slice Ao44 t800.length co44) t800) := ⟨by rw [← hq_]; exact (Xq O_779000)⟩; have n3_ : Aside0 (Kd.R k39 39 wc w.heap.size (fun k_ => some k_ ≠ (.slice Ao44 t800.length co44 : Value).ownBlock) (.slice Ao49 t801.length co49) t801) := ⟨by rw [← hq_]; exact (Xq O_779001)⟩; have n4_ : Aside0 (wc.heap[gb747]? = some (.cells #[.int .i64 a0_0, .int .i64 a0_1, .slice A0_2 l0_2.length c0_2] 24 (0, 0))) := ⟨by rw [← hq_]; exact B747.out⟩; have n5_ : Aside0 (wc.heap[gb748]? = some (.cells #[.slice A1_0 l1_0.length c1_0, .slice A1_1 l1_1.length c1_1] 49 (0, 0))) := ⟨by rw [← hq_]; exact B748.out⟩; have n6_ : Aside0 (wc.heap[gb771]? = some (.cells #[.int .i64 t766, .int .i64 t767, .slice Ao39 t798.length co39] 35 (0, 0))) := ⟨by rw [← hq_]; exact B771.out⟩; have n7_ : Aside0 (wc.heap[gb778]? = some (.cells #[.slice Ao44 t800.length co44, .slice Ao49 t801.length co49] 53 (0, 0))) := ⟨by rw [← hq_]; exact B778.out⟩; have n8_ : Aside0 (Below w.heap.size w wc) := ⟨by rw [← hq_]; exact Xi⟩; clear O_12 O_772002 O_779000 O_779001 B747 B748 B771 B778 HB hq_; have O_12 := n0_; have O_772002 := n1_; have O_779000 := n2_; have O_779001 := n3_; have B747 := n4_; have B748 := n5_; have B771 := n6_; have B778 := n7_; have HB := n8_; clear n0_ n1_ n2_ n3_ n4_ n5_ n6_ n7_ n8_))
    have H := HC122.out
    clear HC122
    obtain ⟨c123b0, H⟩ | ⟨c123b0, H⟩ := Xit H
    ·(first | rw [c123b0] | (simp only [i64_w, i32_w]; rw [c123b0]) | skip)
     cases H
    (first | rw [c123b0] | (simp only [i64_w, i32_w]; rw [c123b0]) | skip)
    obtain ⟨c124, H⟩ | ⟨c124, H⟩ := Xiu H
    ·have c124b0 : (t822 == t803) = true := beq_iff_eq.mpr c124
     have c124b1 : (t822 != t803) = false := bne_eq_false_iff_eq.mpr c124
     clear c124
     go_wp2
     go_ret
     exact ⟨Xe, Xi⟩
    have c124b0 : (t822 == t803) = false := beq_eq_false_iff_ne.mpr c124
    have c124b1 : (t822 != t803) = true := bne_iff_ne.mpr c124
    cases H
   have c102b0 : (t805 == t803) = false := beq_eq_false_iff_ne.mpr c102
   have c102b1 : (t805 != t803) = true := bne_iff_ne.mpr c102
   cases H
  replace c75 := Xbf c75
  subst c75
  try rw [if_neg Xft] at H
  cases H
 replace c66 := Xbf c66
 subst c66
 try rw [if_neg Xft] at H
 cases H
end Go.Proofs.YtahhgjkgfbppeaaGreat.XA
