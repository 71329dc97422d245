/- Small words for contracts of the program's functions: what is read beside rows that are written. Conditions: the theorems' own premises. -/
import Derived.Test.YtfemohapampkiaaWWords
import Derived.Test.YtfemohapampkiaaWKept
import Derived.Test.YtfemohapampkiaaWMore
namespace Go.Proofs.Ytfemohapampkiaa.XW
open Go.RowKit Go.Proofs.YtfemohapampkiaaW.PrintWords
set_option linter.unusedVariables false
set_option linter.unusedSimpArgs false

theorem u8_w (n : Int) : IntKind.u8.wrap n = n % 256 := IntKind.wrap_u8 n

/-- n Bools, by the bits of m. -/
def bs (n m : Nat) : Array Bool := ((List.range n).map (fun i => m.testBit i)).toArray
theorem q0 (l : List Value) (d : List Deferred) (N : Nat) (v : Value) : Act.put ⟨l.toArray, d⟩ (some N) v = ⟨(l.set N v).toArray, d⟩ := by simp only [Act.put, List.setIfInBounds_toArray]
theorem q1 {α : Type} (a b : α) (l : List α) : (a :: l).set 0 b = b :: l := rfl
theorem q2 {α : Type} (a b : α) (l : List α) (n : Nat) : (a :: l).set (n + 1) b = a :: l.set n b := rfl
theorem i0 {a : Value} {l : List Value} : (a :: l).toArray[0]? = some a := rfl
theorem i1 {a b : Value} {l : List Value} : (a :: b :: l).toArray[1]? = some b := rfl
theorem i2 {a b c : Value} {l : List Value} : (a :: b :: c :: l).toArray[2]? = some c := rfl
theorem i3 {a b c d : Value} {l : List Value} : (a :: b :: c :: d :: l).toArray[3]? = some d := rfl
theorem i4 {a b c d e : Value} {l : List Value} : (a :: b :: c :: d :: e :: l).toArray[4]? = some e := rfl
theorem i5 {a b c d e f : Value} {l : List Value} : (a :: b :: c :: d :: e :: f :: l).toArray[5]? = some f := rfl
theorem i6 {a b c d e f g : Value} {l : List Value} : (a :: b :: c :: d :: e :: f :: g :: l).toArray[6]? = some g := rfl
theorem i7 {a b c d e f g h : Value} {l : List Value} : (a :: b :: c :: d :: e :: f :: g :: h :: l).toArray[7]? = some h := rfl
theorem i8 {a b c d e f g h i : Value} {l : List Value} : (a :: b :: c :: d :: e :: f :: g :: h :: i :: l).toArray[8]? = some i := rfl
theorem i9 {a b c d e f g h i j : Value} {l : List Value} : (a :: b :: c :: d :: e :: f :: g :: h :: i :: j :: l).toArray[9]? = some j := rfl
theorem bN {B : Nat} {a w : World} (h : Below B a w) (n : Nat) : Below B a (w.drewN n) := pw_below_drewN h n
theorem bD {B : Nat} {a w : World} (h : Below B a w) : Below B a w.drew := below_drew1 h
theorem cell_same {w W : World} {p : Addr} (h : W.heap[p.block]? = w.heap[p.block]?) : W.cell? p = w.cell? p := by
  unfold World.cell?
  rw [h]

theorem foot_cell {w W : World} {S : Nat → Prop} (hk : Kept w W S) {p : Addr} {u : Value} (hS : ¬ S p.block) (h : w.cell? p = some u) : W.cell? p = some u := by
  rw [← h]
  exact cell_same (hk.2 _ (World.block_lt_of_cell? w _ h) hS)

/-- A world like this one, but for one block that is empty. -/
def emptied (w : World) (b : Nat) : World := { w with heap := w.heap.setIfInBounds b (.cells #[] 0 (0, 0)) }
theorem emptied_kept (w : World) (b : Nat) (S : Nat → Prop) (h : S b) : Kept w (emptied w b) S := by
  refine ⟨by simp [emptied], fun i hi hn => ?_⟩
  have : i ≠ b := fun e => hn (e ▸ h)
  simp [emptied, Array.getElem?_setIfInBounds, Ne.symm this]
theorem emptied_cell (w : World) (p : Addr) : (emptied w p.block).cell? p = none := by
  unfold World.cell? emptied
  by_cases h : p.block < w.heap.size
  · simp [Array.getElem?_setIfInBounds, h]
  · have : w.heap[p.block]? = none := by simp; omega
    simp [Array.getElem?_setIfInBounds, h]

/-- Where a row reads alike whatever is written into S, its block is none of S. -/
theorem foot_block {α : Type} {d : Kd α} {w : World} {S : Nat → Prop} {ad : Addr} {n : Nat} {xs : List α} (hsz : 0 < d.sz) (h : ∀ W_, Kept w W_ S → d.C W_ (some ad) n xs) (hn : 0 < n) : ¬ S ad.block := by
  intro hS
  have hc := h _ (emptied_kept w ad.block S hS)
  obtain ⟨hl, _, h3⟩ := hc
  obtain ⟨ad', e, hcell⟩ := h3 hn
  obtain rfl : ad = ad' := by injection e
  have h0 : 0 < xs.length := by omega
  obtain ⟨c, hcl, _, hcc⟩ := hcell 0 _ (List.getElem?_eq_getElem h0)
  have h1 := hcc 0 _ (List.getElem?_eq_getElem (by omega : 0 < c.length))
  have h2 : (emptied w ad.block).cell? (ad.add (0 * d.sz + 0)) = none := by
    have := emptied_cell w (ad.add (0 * d.sz + 0))
    rwa [add_block] at this
  rw [h2] at h1
  cases h1

section
variable {P : Program} {ops : Array Oper} {rest : List Oper} {o : Oper} {a : Act} {Q : Exit → Act → World → Prop} {α : Type}
open Go.Proofs.YtfemohapampkiaaW.PrintWords.Kd in
/-- make([]T, 0, n): an empty row with room. -/
theorem R_make_cap (d : Kd α) {w0 W : World} (base e : Nat) (hgd : o.guard = none) {N : Tmp} (_hd : o.dst = some N) (t : TypeId) (x y : Operand) (ho : o.op = .makeSlice t x y) (n : Int) (hx : a.eval x = .int .i64 0) (hy : a.eval y = .int .i64 n)
    (ht : P.underlying t = some (.slice e)) (z : Value) (bytes : Nat) (hinfo : (P.info? e).map (fun i => (i.zero, i.size, i.bytes)) = some (some z, d.sz, bytes)) (hz : z.cells.size = d.sz) (hs0 : 0 < d.sz) (hb0 : 0 < bytes)
    (z0 : α) {ok okp : Nat → Prop} (_hzero : d.M W base okp z0 z.cells.toList) (_hok : ∀ k, okp k → ok k) (hfresh : ok W.heap.size) (h0 : 0 ≤ n) (hl : n.toNat * bytes ≤ 281474976710656) (HB : Below base w0 W) (hbase : base ≤ W.heap.size)
    (h : ∀ v1 w1, d.R e w1 base ok v1 (List.replicate 0 z0) → Below base w0 w1 → W.grownBy w1 none → (∃ b, v1.ownBlock = some b ∧ W.heap.size ≤ b) → wpList P ops Q rest (a.put o.dst v1) w1) : wpList P ops Q (o :: rest) a W := by
  obtain ⟨m, rfl⟩ := Int.eq_ofNat_of_zero_le h0
  simp only [Int.toNat_natCast] at hl
  obtain ⟨i0, hi, hzz⟩ := Option.map_eq_some_iff.1 hinfo
  simp only [Prod.mk.injEq] at hzz
  obtain ⟨hz0, hz1, hz2⟩ := hzz
  have hm : m ≤ 281474976710656 := Nat.le_trans (Nat.le_mul_of_pos_right _ hb0) hl
  have hr := run_make (P := P) W t e i0 z ht hi hz0 .i64 .i64 0 (m : Int) (Int.le_refl _) (by omega)
    (by
      have h3 : ((i0.bytes * m : Nat) : Int) ≤ 281474976710656 := by rw [hz2, Nat.mul_comm]; omega
      rwa [Int.natCast_mul] at h3) (by omega)
  simp only [Int.toNat_natCast, Int.toNat_zero] at hr
  rw [hz1] at hr
  have hrun : (execOp a.eval o).run P W = .ok (.value (.slice (some ⟨W.heap.size, 0, none⟩) 0 m)) (W.alloc (.cells (madeCells z.cells (m * d.sz)) e)) := by
    simp [execOp, ho, hx, hy, hr]
  refine event_run hgd hrun (h _ _ ⟨fun k hk => ?_, [], ⟨by simp, .inr ⟨W.heap.size, m, madeCells z.cells (m * d.sz), rfl, hbase, heap_alloc_new W _, Nat.zero_le _, ?_, ?_, ?_⟩⟩, Reps.none _ _⟩ (HB.alloc hbase _) (World.grownBy_alloc W _ none) ⟨W.heap.size, by simp [Value.ownBlock], Nat.le_refl _⟩)
  · have : W.heap.size = k := by simpa [Value.ownBlock] using hk
    subst this
    exact hfresh
  · simp only [maxLen]; omega
  · simp [size_madeCells]
  · simp
end
end Go.Proofs.Ytfemohapampkiaa.XW
