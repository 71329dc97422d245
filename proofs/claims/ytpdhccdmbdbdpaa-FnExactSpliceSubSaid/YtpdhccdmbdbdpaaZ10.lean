/- Words and contracts of this claim, put together out of several texts by a program of this session's. Conditions: each theorem's own premises. -/
import Derived.Test.YtpdhccdmbdbdpaaZ0
import GoSem.ClaimChange
import GoSem.ClaimWide
import Derived.Carry
section
namespace Go.Proofs.Ytpdhccdmbdbdpaa.Opening
open Go.RowKit Go.Proofs.YtpdhccdmbdbdpaaW.PrintWords
def Opens {α : Type} (P : Program) (t : TypeId) (K : Kd α) (ok : α → Prop) : Prop :=
  ∀ {H : Type} (enc : TypeId × Value → H) (W : World) (fuel : Nat) (cs : List Value) (d : DataW H) (ps : List MemPlace),
    DataW.trod enc P W 0 (fun _ => true) true fuel t cs = some (d, ps) → ∃ x, K.K W x cs ∧ ok x
theorem opens_int {P : Program} {t : TypeId} {k : IntKind} (h : P.underlying t = some (.int k)) : Opens P t (Kd.int k) (fun n => (Lit.int k n).wf = true) := by
  intro H enc W fuel cs d ps hd
  cases fuel with
  | zero => simp [DataW.trod] at hd
  | succ fuel =>
    unfold DataW.trod at hd
    rw [h] at hd
    match cs, hd with
    | [.int k' n], hd =>
      by_cases hc : k' = k ∧ (Lit.int k n).wf = true
      · obtain ⟨rfl, hw⟩ := hc
        exact ⟨n, rfl, hw⟩
      · simp [hc] at hd
theorem opens_string {P : Program} {t : TypeId} (h : P.underlying t = some .string) : Opens P t Kd.string (fun s => s.size ≤ maxLen) := by
  intro H enc W fuel cs d ps hd
  cases fuel with
  | zero => simp [DataW.trod] at hd
  | succ fuel =>
    unfold DataW.trod at hd
    rw [h] at hd
    match cs, hd with
    | [.string s], hd =>
      by_cases hc : s.size ≤ maxLen
      · exact ⟨s, rfl, hc⟩
      · simp [hc] at hd
theorem mapM_range {β : Type} {f : Nat → Option β} {n : Nat} {l : List β} (h : (List.range n).mapM f = some l) : l.length = n ∧ ∀ i, i < n → ∃ b : β, f i = some b ∧ l[i]? = some b := by
  have key : ∀ (xs : List Nat) (l : List β), xs.mapM f = some l → l.length = xs.length ∧ ∀ (i x : Nat), xs[i]? = some x → ∃ b : β, f x = some b ∧ l[i]? = some b := by
    intro xs
    induction xs with
    | nil => intro l h; simp at h; subst h; exact ⟨rfl, fun i x hx => by simp at hx⟩
    | cons y ys ih =>
      intro l h
      simp only [List.mapM_cons, Option.bind_eq_bind, Option.bind_eq_some_iff] at h
      obtain ⟨b, hb, bs, hbs, hl⟩ := h
      simp only [Option.pure_def, Option.some.injEq] at hl
      subst hl
      obtain ⟨h1, h2⟩ := ih bs hbs
      refine ⟨by simp [h1], fun i x hx => ?_⟩
      cases i with
      | zero => simp at hx; subst hx; exact ⟨b, hb, rfl⟩
      | succ i => simp at hx; obtain ⟨b', h3, h4⟩ := h2 i x hx; exact ⟨b', h3, by simpa using h4⟩
  obtain ⟨h1, h2⟩ := key _ _ h
  refine ⟨by simpa using h1, fun i hi => h2 i i (by simp [hi])⟩
theorem cells_read {w : World} {a : Addr} {n : Nat} {c : List Value} (h : w.cells? 0 a n = some c) : c.length = n ∧ ∀ i u, c[i]? = some u → w.cell? (a.add i) = some u := by
  unfold World.cells? at h
  rw [if_pos (Nat.zero_le _)] at h
  obtain ⟨h1, h2⟩ := mapM_range h
  refine ⟨h1, fun i u hu => ?_⟩
  have hi : i < n := by
    rw [← h1]
    exact (List.getElem?_eq_some_iff.1 hu).1
  obtain ⟨b, h3, h4⟩ := h2 i hi
  rw [hu] at h4
  rw [h3, ← h4]
theorem list_of {α : Type} (n : Nat) (p : Nat → α → Prop) (h : ∀ i, i < n → ∃ x, p i x) : ∃ l : List α, l.length = n ∧ ∀ i x, l[i]? = some x → p i x := by
  induction n with
  | zero => exact ⟨[], rfl, fun i x hx => by simp at hx⟩
  | succ n ih =>
    obtain ⟨l, h1, h2⟩ := ih (fun i hi => h i (by omega))
    obtain ⟨x, hx⟩ := h n (by omega)
    refine ⟨l ++ [x], by simp [h1], fun i y hy => ?_⟩
    by_cases hi : i < l.length
    · rw [List.getElem?_append_left hi] at hy
      exact h2 i y hy
    · rw [List.getElem?_append_right (by omega)] at hy
      have : i - l.length = 0 := by
        have := (List.getElem?_eq_some_iff.1 hy).1
        simp at this
        omega
      rw [this] at hy
      simp at hy
      subst hy
      have : i = n := by omega
      subst this
      exact hx
theorem add_add (a : Addr) (m n : Nat) : (a.add m).add n = a.add (m + n) := by
  unfold Addr.add
  by_cases hm : m = 0 <;> by_cases hn : n = 0 <;> simp [hm, hn, Nat.add_assoc]
theorem opens_slice {α : Type} {P : Program} {t e : TypeId} {K : Kd α} {ok : α → Prop} (h : P.underlying t = some (.slice e)) (hs : P.cellsOf e = K.sz) (ho : Opens P e K ok) :
    Opens P t (Kd.slice e K) (fun l => l.length ≤ maxLen ∧ ∀ x ∈ l, ok x) := by
  intro H enc W fuel cs d ps hd
  cases fuel with
  | zero => simp [DataW.trod] at hd
  | succ fuel =>
    unfold DataW.trod at hd
    rw [h] at hd
    match cs, hd with
    | [.slice none 0 0], _ => exact ⟨[], ⟨none, 0, rfl, Nat.le_refl _, Kd.C_nil K W⟩, by simp, by simp⟩
    | [.slice (some a) len cap], hd =>
      simp only at hd
      by_cases hc : 0 ≤ a.block ∧ len ≤ cap ∧ cap ≤ maxLen
      · rw [if_pos hc] at hd
        simp only [Option.bind_eq_some_iff] at hd
        obtain ⟨elems, he, _⟩ := hd
        obtain ⟨hl, hg⟩ := mapM_range he
        obtain ⟨l, hll, hlp⟩ := list_of len (fun i x => ok x ∧ ∃ c, c.length = K.sz ∧ K.K W x c ∧ ∀ j u, c[j]? = some u → W.cell? (a.add (i * K.sz + j)) = some u) (by
          intro i hi
          obtain ⟨b, hb, _⟩ := hg i hi
          simp only [Option.bind_eq_some_iff] at hb
          obtain ⟨c, hcc, ht⟩ := hb
          obtain ⟨hc1, hc2⟩ := cells_read hcc
          obtain ⟨x, hx, hok⟩ := ho enc W fuel c b.1 b.2 ht
          refine ⟨x, hok, c, by rw [hc1, hs], hx, fun j u hu => ?_⟩
          have := hc2 j u hu
          rw [← this, hs, add_add])
        refine ⟨l, ⟨some a, cap, by rw [hll], by rw [hll]; exact hc.2.1, rfl, by rw [hll]; have := hc.2; unfold maxLen at this; omega, fun _ => ⟨a, rfl, fun j p hp => ?_⟩⟩, by rw [hll]; have := hc.2; omega, fun x hx => ?_⟩
        · exact (hlp j p hp).2
        · obtain ⟨i, hi, rfl⟩ := List.getElem_of_mem hx
          exact (hlp i _ (List.getElem?_eq_getElem hi)).1
      · rw [if_neg hc] at hd
        simp at hd
theorem trod_struct {H : Type} {enc : TypeId × Value → H} {P : Program} {W : World} {t : TypeId} {fs : Array Field} {fuel : Nat} {cs : List Value} {d : DataW H} {ps : List MemPlace}
    (h : P.underlying t = some (.struct fs)) (hd : DataW.trod enc P W 0 (fun _ => true) true (fuel + 1) t cs = some (d, ps)) :
    cs.length = P.cellsOf t ∧ ∀ (i : Nat) (f : Field), fs.toList[i]? = some f → ∃ (d' : DataW H) (ps' : List MemPlace), DataW.trod enc P W 0 (fun _ => true) true fuel f.type ((cs.drop f.offset).take (P.cellsOf f.type)) = some (d', ps') := by
  unfold DataW.trod at hd
  rw [h] at hd
  simp only at hd
  by_cases hc : cs.length = P.cellsOf t
  · rw [if_pos hc] at hd
    refine ⟨hc, ?_⟩
    simp only [Option.map_eq_some_iff] at hd
    obtain ⟨xs, hx, _⟩ := hd
    have key : ∀ (l : List Field) (xs : List (DataW H × List MemPlace)), l.mapM (fun f => DataW.trod enc P W 0 (fun _ => true) true fuel f.type ((cs.drop f.offset).take (P.cellsOf f.type))) = some xs →
        ∀ (i : Nat) (f : Field), l[i]? = some f → ∃ (d' : DataW H) (ps' : List MemPlace), DataW.trod enc P W 0 (fun _ => true) true fuel f.type ((cs.drop f.offset).take (P.cellsOf f.type)) = some (d', ps') := by
      intro l
      induction l with
      | nil => intro xs _ i f hf; simp at hf
      | cons y ys ih =>
        intro xs h i f hf
        simp only [List.mapM_cons, Option.bind_eq_bind, Option.bind_eq_some_iff] at h
        obtain ⟨b, hb, bs, hbs, _⟩ := h
        cases i with
        | zero => simp at hf; subst hf; exact ⟨b.1, b.2, hb⟩
        | succ i => simp at hf; exact ih bs hbs i f hf
    exact key _ _ hx
  · rw [if_neg hc] at hd
    simp at hd
theorem agg_val {P : Program} {W : World} {r : Reach} {base : Nat} {t : TypeId} {fs : Array Field} {v : Value} (h : P.underlying t = some (.struct fs)) (hv : Value.okWide P W r base t v) : ∃ cs, v = .agg cs := by
  unfold Value.okWide at hv
  rw [h] at hv
  obtain ⟨cs, e, _⟩ := hv
  exact ⟨cs, e⟩
end Go.Proofs.Ytpdhccdmbdbdpaa.Opening
end
