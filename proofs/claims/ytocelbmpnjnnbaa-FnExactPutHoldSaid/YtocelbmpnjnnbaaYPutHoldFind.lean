/- What (*Doc).find comes to: the place of a node, found by halves, or a negative number and a nil pointer. Conditions: the premises. -/
import Derived.Test.YtocelbmpnjnnbaaYPutHold9
namespace Go.Proofs.Ytocelbmpnjnnbaa.XA
set_option linter.unusedVariables false
open Go.RowKit Go.Proofs.YtocelbmpnjnnbaaW.PrintWords Go.Proofs.YtocelbmpnjnnbaaW.PrintLast Go.Proofs.YtocelbmpnjnnbaaW.PrintMore
def impl_Doc_find.f (k : Nat) (a0_0 : Int) (a0_1 : Int) (l0_2 : List S64) (a1 : Int) : Option Int :=
  (slices_BinarySearchFunc_impl_Node_impl_Node_int_at_impl_Doc_find_1.f k l0_2 a1).bind fun t => if t.2 = true then (if 0 ≤ t.1 then (if t.1 < (l0_2.length : Int) then some t.1 else none) else none) else some (-1)
set_option maxHeartbeats 8000000 in
set_option maxRecDepth 100000 in
theorem impl_Doc_find.calls (k : Nat) (g0_ : Nat) (a0_0 : Int) (a0_1 : Int) (A0_2 : Option Addr) (c0_2 : Nat) (l0_2 : List (S64)) (a1 : Int) (r : Int) (w : World) (hg0_ : w.heap[g0_]? = some (.cells #[.int .i64 a0_0, .int .i64 a0_1, .slice A0_2 l0_2.length c0_2] 35 (0, 0))) (hr0_2 : Kd.C k64 w A0_2 l0_2.length l0_2) (hc0_2 : l0_2.length ≤ c0_2) (h : impl_Doc_find.f k a0_0 a0_1 l0_2 a1 = some r) :
    Calls Try.prog 87 #[.pointer (some ⟨g0_, 0, none⟩), .int .i64 a1] w fun e w' => ∃ p : Option Addr, e = .returned (.pointer p) ∧ (r < 0 → p = none) ∧ (0 ≤ r → ∃ ad, A0_2 = some ad ∧ p = some (ad.add (r.toNat * 5))) ∧ Below w.heap.size w w' := by
  have HR := Aside0.mk hr0_2
  have HC := Aside0.mk hc0_2
  have HB := Aside0.mk (Below.refl w.heap.size w)
  have hcz_2 : w.cell? ⟨g0_, 2, none⟩ = some (.slice A0_2 l0_2.length c0_2) := (blk_cell hg0_ 2).trans rfl
  have hfz_2 := blk_frozen hg0_ 2
  clear hr0_2 hc0_2
  obtain ⟨⟨i, ok⟩, hbs, h⟩ := Option.bind_eq_some_iff.mp h
  have A1 := Aside0.mk hbs
  clear hbs
  cases ok with
  | false =>
    obtain rfl : -1 = r := by simpa using h
    clear h
    go_enter Try.func87, Try.ntmps87
    go_wp2_with (first | ((with_reducible refine gate_callee (f := 143) rfl ?_); refine goesL_ (some 13) rfl rfl Try.func143 (by kernel_rfl) rfl #[.slice A0_2 l0_2.length c0_2, .int .i64 a1, .func (.func 144) #[] #[]] rfl (by (try simp only [List.map_toArray, List.map_cons, List.map_nil]); first | done | rfl) ?_; (with_reducible refine (slices_BinarySearchFunc_impl_Node_impl_Node_int_at_impl_Doc_find_1.calls k _ _ l0_2 a1 i false _ ?side1 ?side2 A1.out).mono ?_); (case side1 => exact HR.out); (case side2 => exact HC.out); rintro e w2 ⟨rfl, hb⟩; refine ⟨_, rfl, ?_⟩))
    go_ret
    exact ⟨none, by first | rfl | simp, fun _ => rfl, fun h0 => absurd h0 (by decide), hb⟩
  | true =>
    have h0 : 0 ≤ i ∧ i < (l0_2.length : Int) ∧ i = r := by
      simp only [if_true] at h
      by_cases p : 0 ≤ i
      · rw [if_pos p] at h
        by_cases q : i < (l0_2.length : Int)
        · rw [if_pos q] at h; exact ⟨p, q, Option.some.inj h⟩
        · rw [if_neg q] at h; cases h
      · rw [if_neg p] at h; cases h
    obtain ⟨p0, q0, rfl⟩ := h0
    clear h
    obtain ⟨ad, hA⟩ : ∃ ad, A0_2 = some ad := by
      obtain ⟨ad, _, _, e, _⟩ := at_T64 HR.out i p0 q0
      exact ⟨ad, e⟩
    subst hA
    have p1 := eq_true p0
    have q1 := eq_true q0
    go_enter Try.func87, Try.ntmps87
    go_wp2_with (first | ((with_reducible refine gate_callee (f := 143) rfl ?_); refine goesL_ (some 13) rfl rfl Try.func143 (by kernel_rfl) rfl #[.slice (some ad) l0_2.length c0_2, .int .i64 a1, .func (.func 144) #[] #[]] rfl (by (try simp only [List.map_toArray, List.map_cons, List.map_nil]); first | done | rfl) ?_; (with_reducible refine (slices_BinarySearchFunc_impl_Node_impl_Node_int_at_impl_Doc_find_1.calls k _ _ l0_2 a1 i true _ ?side1 ?side2 A1.out).mono ?_); (case side1 => exact HR.out); (case side2 => exact HC.out); rintro e w2 ⟨rfl, hb⟩; refine ⟨_, rfl, ?_⟩; have hczw := (hb.cell (World.block_lt_of_cell? w _ hcz_2)).trans hcz_2))
    go_ret
    exact ⟨_, by first | rfl | simp, fun h0 => absurd p0 (by omega), fun _ => ⟨ad, rfl, rfl⟩, hb⟩
end Go.Proofs.Ytocelbmpnjnnbaa.XA
