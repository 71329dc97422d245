/- What the marks of a machine come to: its rows' numbers and its marks of ends, in place. Conditions: the premises. -/
import Derived.Test.YthkbgbkglgmpoaaYFirstKids1
import Derived.Test.YthkbgbkglgmpoaaYFirstKidsMarkIntSS
import Derived.Test.YthkbgbkglgmpoaaMark
namespace Go.Proofs.Ythkbgbkglgmpoaa.XA
set_option linter.unusedVariables false
open Go.RowKit Go.Proofs.YthkbgbkglgmpoaaW.PrintWords Go.Proofs.YthkbgbkglgmpoaaW.PrintLast Go.Proofs.YthkbgbkglgmpoaaW.PrintMore
def laws_markMachine.f (k : Nat) (l0_0 : List (List Int)) (l0_1 : List Bool) (a1 : Int) : Option (Int × List (List Int) × List Bool) := (laws_markIntSS.f k l0_0 a1).bind fun p_ => (laws_markBoolS.f k l0_1 p_.1).bind fun q_ => some (q_.1, p_.2, q_.2)
set_option maxHeartbeats 8000000 in
set_option maxRecDepth 100000 in
theorem laws_markMachine.calls (k : Nat) (P0_0_ : Nat → Prop) (u9000_ : Value) (l0_0 : List (List Int)) (P0_1_ : Nat → Prop) (u9001_ : Value) (l0_1 : List Bool) (a1 : Int) (r1 : Int) (r2 : List (List Int)) (r3 : List Bool) (w0 w : World) (hB : Below w0.heap.size w0 w) (ho0_0 : Kd.S (Kd.slice 3 (Kd.int .i64)) 39 w w0.heap.size P0_0_ u9000_ l0_0) (hp0_0_0_1 : ∀ k_, P0_0_ k_ → ¬ P0_1_ k_) (ho0_1 : Kd.R Kd.bool 4 w w0.heap.size P0_1_ u9001_ l0_1) (hp0_1_0_0 : ∀ k_, P0_1_ k_ → ¬ P0_0_ k_) (h : laws_markMachine.f k l0_0 l0_1 a1 = some (r1, r2, r3)) :
    Calls Try.prog 15 #[.agg #[u9000_, u9001_], .int .i64 a1] w fun e w' => e = .returned (.int .i64 r1) ∧ Kd.S (Kd.slice 3 (Kd.int .i64)) 39 w' w0.heap.size P0_0_ u9000_ r2 ∧ Kd.R Kd.bool 4 w' w0.heap.size (fun k_ => ((P0_0_ k_ ∨ P0_1_ k_) ∨ w.heap.size ≤ k_)) u9001_ r3 ∧ Below w0.heap.size w0 w' ∧ Kept w w' (fun k_ => P0_0_ k_ ∨ P0_1_ k_) := by
  have huM := Try.underlying27
  obtain ⟨A, c0, rfl⟩ := Kd.S_slice ho0_0
  obtain ⟨B, c1, rfl⟩ := Kd.R_slice ho0_1
  unfold laws_markMachine.f at h
  obtain ⟨⟨n2, xs2⟩, h1, h⟩ := Option.bind_eq_some_iff.1 h
  obtain ⟨⟨n3, ys2⟩, h2, h⟩ := Option.bind_eq_some_iff.1 h
  simp only [Option.some.injEq, Prod.mk.injEq] at h h2
  obtain ⟨rfl, rfl, rfl⟩ := h
  have HS := Aside0.mk (Kd.S_mono (ok' := fun k_ => P0_0_ k_ ∧ k_ < w.heap.size) (Kd.S_bound ho0_0) (fun k_ h_ => ⟨h_.1, h_.2.2.1⟩))
  have HR := Aside0.mk ho0_1
  have HB := Aside0.mk hB
  have H1 := Aside0.mk h1
  have H2 := Aside0.mk h2
  clear ho0_0 ho0_1 hB h1 h2
  go_enter Try.func15, Try.ntmps15
  go_wp2_with (first
    | ((with_reducible refine gate_dst (N := 2) rfl ?_); refine XW.Xbox 2 #[.slice A l0_0.length c0, .slice B l0_1.length c1] 27 ?_; intro gb hg wa hbox hb; have BK := Aside0.mk hbox; replace HS := Aside0.mk (Kd.S_below HS.out hb); replace HR := Aside0.mk (Kd.R_below HR.out hb); replace HB := Aside0.mk (below_step HB.out hb); have HK := Aside0.mk (Kept.of_below hb (fun k_ => P0_0_ k_ ∨ P0_1_ k_)); have HG := Aside0.mk hg; clear hg hbox hb; obtain ⟨hx0, hx1⟩ := XW.Xc2 BK)
    | ((with_reducible refine gate_callee (f := 52) rfl ?_); refine XW.Xgo 8 Try.func52 #[.slice A l0_0.length c0, .int .i64 a1] ?_; (with_reducible refine (laws_markIntSS.calls k (fun k_ => P0_0_ k_ ∧ k_ < w.heap.size) _ l0_0 a1 n2 xs2 w0 _ HB.out HS.out H1.out).mono ?_); rintro e wb ⟨rfl, hs, hb, hk⟩; refine ⟨_, rfl, ?_⟩; replace HS := Aside0.mk hs; replace HR := Aside0.mk (Kd.R_mono (ok' := P0_1_) (XR.R_keptT rfl HR.out hk (fun k_ h_ => fun g_ => hp0_1_0_0 k_ h_.2 g_.1)) (fun _ h_ => h_.1)); replace HB := Aside0.mk hb; replace BK := Aside0.mk (blk_kept BK.out hk (fun hs_ => by have h2_ := hs_.2; have h3_ := HG.out; omega)); replace HK := Aside0.mk (HK.out.then_ hk (fun k_ hk' => .inl (.inl hk'.1))); clear hs hb hk hx0 hx1; obtain ⟨hx0, hx1⟩ := XW.Xc2 BK)
    | ((with_reducible refine gate_callee (f := 53) rfl ?_); refine XW.Xgo 12 Try.func53 #[.slice B l0_1.length c1, .int .i64 n2] ?_; (with_reducible refine (laws_markBoolS.calls k P0_1_ _ l0_1 n2 n3 ys2 w0 _ HB.out HR.out H2.out).mono ?_); rintro e wc ⟨rfl, hr, hb, hk⟩; refine ⟨_, rfl, ?_⟩; replace HS := Aside0.mk (Kd.S_kept HS.out hk (fun k_ h_ => hp0_0_0_1 k_ h_.1)); replace HR := Aside0.mk (Kd.R_mono (ok' := fun k_ => ((P0_0_ k_ ∨ P0_1_ k_) ∨ w.heap.size ≤ k_)) hr (fun k_ h_ => h_.elim (fun q_ => .inl (.inr q_)) (fun q_ => .inr (Nat.le_trans HK.out.1 q_)))); replace HB := Aside0.mk hb; replace HK := Aside0.mk (HK.out.then_ hk (fun k_ hk' => .inl (.inr hk'))); clear hr hb hk hx0 hx1))
  go_ret
  exact ⟨by first | rfl | (simp; done) | (simp [*]; done), Kd.S_mono HS.out (fun _ h_ => h_.1), HR.out, HB.out, HK.out⟩
end Go.Proofs.Ythkbgbkglgmpoaa.XA
