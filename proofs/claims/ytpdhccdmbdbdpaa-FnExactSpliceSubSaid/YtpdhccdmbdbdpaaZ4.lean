/- Words and contracts of this claim, put together out of several texts by a program of this session's. Conditions: each theorem's own premises. -/
import Derived.Test.YtpdhccdmbdbdpaaZ0
import Derived.MapKept
import Derived.Carry
section
namespace Go.Proofs.Ytpdhccdmbdbdpaa.XM
open Go.RowKit Go.Proofs.YtpdhccdmbdbdpaaW.PrintWords
set_option linter.unusedVariables false
set_option linter.unusedSimpArgs false
section
variable {β : Type}
def get (d : β) : List (Int × β) → Int → β
  | [], _ => d
  | p :: l, k => if k = p.1 then p.2 else get d l k
def put : List (Int × β) → Int → β → List (Int × β)
  | [], k, v => [(k, v)]
  | p :: l, k, v => if k = p.1 then (k, v) :: l else p :: put l k v
def idx (k : Int) : List (Int × β) → Nat → Option (Nat × β)
  | [], _ => none
  | p :: l, j => if k = p.1 then some (j, p.2) else idx k l (j + 1)
theorem idx_none {k : Int} {l : List (Int × β)} {j : Nat} (h : idx k l j = none) (d v : β) : get d l k = d ∧ put l k v = l ++ [(k, v)] := by
  induction l generalizing j with
  | nil => exact ⟨rfl, rfl⟩
  | cons p l ih =>
    unfold idx at h
    by_cases hk : k = p.1
    · rw [if_pos hk] at h; cases h
    · rw [if_neg hk] at h
      obtain ⟨h1, h2⟩ := ih h
      exact ⟨by rw [get, if_neg hk, h1], by rw [put, if_neg hk, h2]; rfl⟩
theorem idx_some {k : Int} {l : List (Int × β)} {j n : Nat} {b : β} (h : idx k l j = some (n, b)) (d v : β) : ∃ m, n = j + m ∧ get d l k = b ∧ put l k v = l.set m (k, v) ∧ l[m]? = some (k, b) := by
  induction l generalizing j with
  | nil => cases h
  | cons p l ih =>
    unfold idx at h
    by_cases hk : k = p.1
    · rw [if_pos hk] at h
      injection h with h
      injection h with h1 h2
      refine ⟨0, by omega, by rw [get, if_pos hk, h2], by rw [put, if_pos hk]; rfl, ?_⟩
      rw [hk, ← h2]; rfl
    · rw [if_neg hk] at h
      obtain ⟨m, h1, h2, h3, h4⟩ := ih h
      exact ⟨m + 1, by omega, by rw [get, if_neg hk, h2], by rw [put, if_neg hk, h3]; rfl, by simpa using h4⟩
end
section
variable {β : Type} {enc : β → Value}
def entriesOf (enc : β → Value) : List (Int × β) → Nat → List MapEntry
  | [], _ => []
  | p :: l, i => { key := .int .i64 p.1, val := enc p.2, born := i } :: entriesOf enc l (i + 1)
def mapObj (enc : β → Value) (xs : List (Int × β)) : Obj := .map (entriesOf enc xs 0).toArray xs.length
theorem entriesOf_length (l : List (Int × β)) (i : Nat) : (entriesOf enc l i).length = l.length := by
  induction l generalizing i with
  | nil => rfl
  | cons k l ih => simp [entriesOf, ih]
theorem entriesOf_snoc (l : List (Int × β)) (i : Nat) (k : Int) (v : β) : entriesOf enc (l ++ [(k, v)]) i = entriesOf enc l i ++ [{ key := .int .i64 k, val := enc v, born := i + l.length }] := by
  induction l generalizing i with
  | nil => rfl
  | cons x l ih => simp [entriesOf, ih, Nat.add_assoc, Nat.add_comm 1]
theorem entriesOf_set (l : List (Int × β)) (i m : Nat) (k : Int) (b v : β) (h : l[m]? = some (k, b)) : entriesOf enc (l.set m (k, v)) i = (entriesOf enc l i).modify m (fun e => { e with key := .int .i64 k, val := enc v }) := by
  induction l generalizing i m with
  | nil => cases h
  | cons x l ih =>
    cases m with
    | zero => simp [entriesOf]
    | succ m => simp at h; simp [entriesOf, ih _ _ h]
theorem entriesOf_at (l : List (Int × β)) (i m : Nat) (p : Int × β) (h : l[m]? = some p) : ∃ e, (entriesOf enc l i)[m]? = some e ∧ e.key = .int .i64 p.1 := by
  induction l generalizing i m with
  | nil => cases h
  | cons x l ih =>
    cases m with
    | zero => simp at h; subst h; exact ⟨_, rfl, rfl⟩
    | succ m => simp at h; obtain ⟨e, h1, h2⟩ := ih (i + 1) m h; exact ⟨e, by simpa [entriesOf] using h1, h2⟩
theorem find_keys (k : Int) (l : List (Int × β)) (i j : Nat) : Instr.findNow (.int .i64) (.int .i64 k) (entriesOf enc l i) j = some ((idx k l j).map fun q => (q.1, enc q.2)) := by
  induction l generalizing i j with
  | nil => simp [entriesOf, Instr.findNow, idx]
  | cons x l ih =>
    by_cases h : k = x.1
    · simp [entriesOf, Instr.findNow, Instr.sameNow, idx, h]
    · rw [entriesOf, Instr.findNow]
      simp only [Instr.sameNow, if_true, beq_eq_false_iff_ne.2 h]
      rw [ih, idx, if_neg h]
variable {P : Program} {w : World} {g : Nat} {xs : List (Int × β)} {t kt et : TypeId}
theorem run_lookup (hg : w.heap[g]? = some (mapObj enc xs)) (ht : P.underlying t = some (.map kt et)) (hk : P.underlying kt = some (.int .i64)) {d : β} (hz : (zeroValue et).run P w = .ok (enc d) w) (k : Int) :
    (Instr.lookup t (.map (some g)) (.int .i64 k) false).run P w = .ok (enc (get d xs k)) w := by
  have h1 := MapKept.run_getObj_map (P := P) hg
  have h2 := MapKept.run_findKey (P := P) (w := w) hk (l := entriesOf enc xs 0) (find_keys k xs 0 0)
  have h3 : ∀ e, (Instr.checkKey e 10000 kt (.int .i64 k)).run P w = .ok () w := fun e => MapKept.run_checkKey (P := P) (w := w) hk (k := .int .i64 k) (by simp [MapKept.IsKey]) e 9999
  unfold Instr.lookup
  cases hm : idx k xs 0 with
  | none =>
    obtain ⟨g1, _⟩ := idx_none hm d d
    rw [hm] at h2
    simp only [Option.map_none] at h2
    simp [run_underlying ht, Result.andThen, h1, h2, h3, hz, g1]
  | some q =>
    obtain ⟨m, _, g1, _⟩ := idx_some (n := q.1) (b := q.2) hm d d
    rw [hm] at h2
    simp only [Option.map_some] at h2
    simp [run_underlying ht, Result.andThen, h1, h2, h3, hz, g1]
theorem run_update (hg : w.heap[g]? = some (mapObj enc xs)) (ht : P.underlying t = some (.map kt et)) (hk : P.underlying kt = some (.int .i64)) (k : Int) (v : β) :
    (Instr.mapUpdate t (.map (some g)) (.int .i64 k) (enc v)).run P w = .ok () { w with heap := w.heap.setIfInBounds g (mapObj enc (put xs k v)) } := by
  have h1 := MapKept.run_getObj_map (P := P) hg
  have h2 := MapKept.run_findKey (P := P) (w := w) hk (l := entriesOf enc xs 0) (find_keys k xs 0 0)
  have h3 : ∀ e, (Instr.checkKey e 10000 kt (.int .i64 k)).run P w = .ok () w := fun e => MapKept.run_checkKey (P := P) (w := w) hk (k := .int .i64 k) (by simp [MapKept.IsKey]) e 9999
  have h4 := MapKept.run_setObj_map (P := P) (mapObj enc (put xs k v)) hg
  unfold Instr.mapUpdate
  rw [← h4]
  cases hm : idx k xs 0 with
  | none =>
    obtain ⟨_, g2⟩ := idx_none hm v v
    rw [hm] at h2
    simp only [Option.map_none] at h2
    simp [run_underlying ht, Result.andThen, h1, h2, h3, mapObj, g2, entriesOf_snoc]
  | some q =>
    obtain ⟨m, e1, _, g2, g3⟩ := idx_some (n := q.1) (b := q.2) hm v v
    obtain ⟨e, g4, g5⟩ := entriesOf_at (enc := enc) xs 0 m _ g3
    rw [hm] at h2
    simp only [Option.map_some] at h2
    have e2 : q.1 = m := by omega
    have h5 : (Instr.keyThatStays (.int .i64 k) (.int .i64 k)).run P w = .ok (.int .i64 k) w := MapKept.run_keyThatStays (d := .int .i64) (by simp [MapKept.IsKey])
    have h6 : (entriesOf enc (put xs k v) 0).toArray = (entriesOf enc xs 0).toArray.modify m (fun e => { e with key := .int .i64 k, val := enc v }) := by
      rw [g2, entriesOf_set xs 0 m k _ v g3]; simp
    have h7 : (put xs k v).length = xs.length := by rw [g2, List.length_set]
    simp [run_underlying ht, Result.andThen, h1, h2, h3, mapObj, h6, h7, e2, g4, g5, h5]
theorem run_len (hg : w.heap[g]? = some (mapObj enc xs)) (ht : P.underlying t = some (.map kt et)) (ty : TypeId) :
    (Builtin.len_ #[t] ty #[.map (some g)]).run P w = .ok (.int .i64 (xs.length : Int)) w := by
  have h1 := MapKept.run_getObj_map (P := P) hg
  simp [Builtin.len_, run_underlying ht, Result.andThen, h1, entriesOf_length]
  rfl
end
section
variable {β : Type} {enc : β → Value} {P : Program} {ops : Array Oper} {rest : List Oper} {o : Oper} {a : Act} {Q : Exit → Act → World → Prop} {W : World} {g : Nat} {xs : List (Int × β)} {t kt et : TypeId}
theorem gate_update {t : TypeId} {m k v : Operand} (_ho : o.op = .mapUpdate t m k v) (h : wpList P ops Q (o :: rest) a W) : wpList P ops Q (o :: rest) a W := h
theorem make_event (enc : β → Value) (hgd : o.guard = none) {N : Tmp} (_hd : o.dst = some N) (t : TypeId) (ho : o.op = .makeMap t none)
    (h : ∀ g, g = W.heap.size → ∀ w1, w1.heap[g]? = some (mapObj enc ([] : List (Int × β))) → Below W.heap.size W w1 → wpList P ops Q rest (a.put o.dst (.map (some g))) w1) : wpList P ops Q (o :: rest) a W := by
  have hrun : (execOp a.eval o).run P W = .ok (.value (.map (some W.heap.size))) (W.alloc (.map #[] 0)) := by
    simp [execOp, ho, run_makeMap]
  exact Kd.event_run hgd hrun (h _ rfl _ (blk_new W _) (below_alloc (Below.refl _ _) _))
theorem lookup_event (hgd : o.guard = none) {N : Tmp} (_hd : o.dst = some N) (t : TypeId) (m k : Operand) (ho : o.op = .lookup t m k false) (d : β) (n : Int) (hm : a.eval m = .map (some g)) (hk : a.eval k = .int .i64 n)
    (hb : W.heap[g]? = some (mapObj enc xs)) (ht : P.underlying t = some (.map kt et)) (hkt : P.underlying kt = some (.int .i64)) (hz : (zeroValue et).run P W = .ok (enc d) W)
    (h : wpList P ops Q rest (a.put o.dst (enc (get d xs n))) W) : wpList P ops Q (o :: rest) a W := by
  have hrun : (execOp a.eval o).run P W = .ok (.value (enc (get d xs n))) W := by
    simp [execOp, ho, hm, hk, run_lookup hb ht hkt hz n]
  exact Kd.event_run hgd hrun h
theorem len_event (hgd : o.guard = none) {N : Tmp} (_hd : o.dst = some N) (t : TypeId) (m : Operand) (ho : o.op = .call { callee := .builtin .len, args := #[m], argTypes := #[t] }) (hm : a.eval m = .map (some g))
    (hb : W.heap[g]? = some (mapObj enc xs)) (ht : P.underlying t = some (.map kt et))
    (h : wpList P ops Q rest (a.put o.dst (.int .i64 (xs.length : Int))) W) : wpList P ops Q (o :: rest) a W := by
  have hr := run_len hb ht o.type
  refine wpList_plain hgd fun K hK => ?_
  unfold Oper.wp execOp
  simp only [ho, resolve, invoke, builtin, Sem.run_bind, Sem.run_pure, Result.andThen_ok, List.map_toArray, List.map_cons, List.map_nil, hm, hr]
  exact hK _ _ h
theorem grown_set (o' : Obj) (hb : W.heap[g]? = some (mapObj enc xs)) : W.grownBy { W with heap := W.heap.setIfInBounds g o' } (some g) :=
  { os := rfl, tape := rfl, output := rfl, size := by simp, block := fun k hk hne => (MapKept.heap_set hb).2 k (fun e => hne (by rw [e])) }
theorem update_event (hgd : o.guard = none) (hN : o.dst = none) (t : TypeId) (m k v : Operand) (ho : o.op = .mapUpdate t m k v) (n : Int) (u : β) (hm : a.eval m = .map (some g)) (hk : a.eval k = .int .i64 n) (hv : a.eval v = enc u)
    (hb : W.heap[g]? = some (mapObj enc xs)) (ht : P.underlying t = some (.map kt et)) (hkt : P.underlying kt = some (.int .i64))
    (h : ∀ w1, w1.heap[g]? = some (mapObj enc (put xs n u)) → W.grownBy w1 (some g) → wpList P ops Q rest a w1) : wpList P ops Q (o :: rest) a W := by
  refine wpList_plain hgd fun K hK => ?_
  unfold Oper.wp
  have hrun : (execOp a.eval o).run P W = .ok .skip { W with heap := W.heap.setIfInBounds g (mapObj enc (put xs n u)) } := by
    simp [execOp, ho, hm, hk, hv, run_update hb ht hkt n u, Result.andThen]
  rw [hrun]
  show K (a.put o.dst undef) _
  rw [hN]
  exact hK _ _ (h _ (MapKept.heap_set hb).1 (grown_set _ hb))
theorem blk_far {w : World} {g : Nat} {o : Obj} (h : w.heap[g]? = some o) {p : Addr} (hp : g ≠ p.block) (u : Value) : (w.setCell p u).heap[g]? = some o := (Below.heap_setCell w p u g hp).trans h
theorem ne_map {E : List Nat} {w : World} {e : Nat} {es : Array MapEntry} {c : Nat} {g k : Nat} (hb : w.heap[g]? = some (.map es c)) (h : ∃ q, q ∈ (e :: E) ∧ ∃ cells, w.heap[k]? = some (.cells cells q (0, 0))) : k ≠ g := by
  obtain ⟨_, _, cells, hc⟩ := h
  rintro rfl
  rw [hc] at hb
  cases hb
variable {α : Type} {d : Kd α} {e base : Nat} {ok : Nat → Prop} {v : Value} {ys : List α} {W1 : World}
theorem R_overmap (h : d.R e W base ok v ys) (hb : W.heap[g]? = some (mapObj enc xs)) (hg : W.grownBy W1 (some g)) : d.R e W1 base ok v ys :=
  Kd.R_mono (Kd.R_grown (Kd.R_bound h) hg (fun k hk e_ => ne_map hb hk.2.2.2 (Option.some.inj e_))) (fun _ hk => hk.1)
theorem R_nem (h : d.R e W base ok v ys) (hb : W.heap[g]? = some (mapObj enc xs)) : some g ≠ v.ownBlock := by
  intro e_
  have h2 := (Kd.R_bound h).1 g e_.symm
  exact ne_map hb h2.2.2.2 rfl
theorem S_nem (h : Kd.S d e W base ok v ys) (hb : W.heap[g]? = some (mapObj enc xs)) : some g ≠ v.ownBlock := R_nem (Kd.S_R h) hb
theorem S_typesm (h : Kd.S d e W base ok v ys) (hb : W.heap[g]? = some (mapObj enc xs)) : Kd.S d e W base (fun k => ok k ∧ k ≠ g) v ys :=
  Kd.S_mono (Kd.S_bound h) (fun k hk => ⟨hk.1, fun e_ => ne_map hb hk.2.2.2 e_⟩)
end
end Go.Proofs.Ytpdhccdmbdbdpaa.XM
end
