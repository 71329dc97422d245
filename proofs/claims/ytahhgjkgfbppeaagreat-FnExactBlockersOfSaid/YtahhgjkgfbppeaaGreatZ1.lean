/- Words and contracts of this claim. Conditions: each theorem's own premises. -/
import Derived.Test.YtahhgjkgfbppeaaGreatProg
import Derived.Test.YtahhgjkgfbppeaaGreatZ0
import Derived.Below
import Derived.Deep.Draws
import Derived.Deep.AppendLies
import Derived.Maps.AppendAt
import Derived.OwnWalk
import Derived.Laws.BytesArg
import Derived.Laws.MakeOwn
import Derived.Laws.OwnMore
import Derived.Deep.OwnRows
import Derived.Tactics
import Derived.Lib.ConvBytes
import Derived.Laws.Slices
import Derived.WalkKit
import Derived.KernelRfl
import Derived.RowKit3
import Derived.Deep.LoopGhost
import Derived.Deep.QuietTactic
import Derived.BigQuiet
import Derived.WideLaws
import Derived.Deep.DeepCutAuto
import Derived.Deep.CutBlock
import Derived.Deep.RegionHeld3
import Derived.Laws.Rows
import Derived.Lib.AppendStr
import Derived.ArgAppend
import Derived.Laws.IdiomCopy
import Derived.OrdersHeld
import Derived.Laws.BitsLemmas
import Derived.RowKit
namespace Go.Proofs.YtahhgjkgfbppeaaGreat.XA
open Go.RowKit Go.Proofs.YtahhgjkgfbppeaaGreatW.PrintWords Go.Proofs.YtahhgjkgfbppeaaGreatW.PrintLast Go.Proofs.YtahhgjkgfbppeaaGreatW.PrintMore XW
attribute [local go_sem] max2_int min2_int max_two min_two max_three min_three max_four min_four   -- for this text's walks alone
set_option linter.unusedVariables false
set_option linter.unusedSimpArgs false
set_option maxHeartbeats 8000000
set_option maxRecDepth 100000
def errW : Option Int → Value
  | none => .nilIface
  | some c => .iface 0 (.int .i64 c)
theorem errW_none : errW none = .nilIface := rfl
theorem errW_some (c : Int) : errW (some c) = .iface 0 (.int .i64 c) := rfl
theorem info3 : (Tryz.prog.info? 3).map (fun i => (i.zero, i.size, i.bytes)) = some (some (.int .i64 0), 1, 8) := by kernel_rfl
theorem info39 : (Tryz.prog.info? 39).map (fun i => (i.zero, i.size, i.bytes)) = some (some (.agg #[(.int .i64 0), (.int .i64 0), (.int .i64 0)]), 3, 24) := by kernel_rfl
theorem info113 : (Tryz.prog.info? 113).map (fun i => (i.zero, i.size, i.bytes)) = some (some (.agg #[(.int .i64 0), (.int .i64 0), (.int .i64 0), (.string ⟨#[]⟩), (.slice none 0 0)]), 5, 64) := by kernel_rfl
structure S109 where
  f0 : Int
  f1 : Int
  f2 : Int
  f3 : ByteArray
  f4 : (List Int)
def z109 : S109 := ⟨(0 : Int), (0 : Int), (0 : Int), (⟨#[]⟩ : ByteArray), ([] : List Int)⟩
def k109 : Kd S109 := Kd.iso (Kd.pair (Kd.int .i64) (Kd.pair (Kd.int .i64) (Kd.pair (Kd.int .i64) (Kd.pair Kd.string (Kd.slice 3 (Kd.int .i64)))))) (fun x : S109 => (x.f0, x.f1, x.f2, x.f3, x.f4))
theorem k109_open {w : World} {x : S109} {cs : List Value} (h : k109.K w x cs) : ∃ A4 c4, cs = [.int .i64 x.f0, .int .i64 x.f1, .int .i64 x.f2, .string x.f3, .slice A4 x.f4.length c4] ∧ x.f4.length ≤ c4 ∧ (Kd.int .i64).C w A4 x.f4.length x.f4 := by
 obtain ⟨_, _, rfl, rfl, ⟨_, _, rfl, rfl, ⟨_, _, rfl, rfl, ⟨_, _, rfl, rfl, ⟨A4, c4, rfl, l4, g4⟩⟩⟩⟩⟩ := h
 exact ⟨A4, c4, rfl, l4, g4⟩
def rd_T109 (xs : List S109) (i : Int) : S109 := xs.getD i.toNat z109
theorem at_T109 {w : World} {A : Option Addr} {n : Nat} {xs : List S109} (h : Kd.C k109 w A n xs) (i : Int) (h0 : 0 ≤ i) (h1 : i < n) : ∃ ad A4 c4, A = some ad ∧ w.cell? (ad.add (i.toNat * 5)) = some (.int .i64 (rd_T109 xs i).f0) ∧ w.cell? ⟨(ad.add (i.toNat * 5)).block, (ad.add (i.toNat * 5)).off + 1, none⟩ = some (.int .i64 (rd_T109 xs i).f1) ∧ w.cell? ⟨(ad.add (i.toNat * 5)).block, (ad.add (i.toNat * 5)).off + 2, none⟩ = some (.int .i64 (rd_T109 xs i).f2) ∧ w.cell? ⟨(ad.add (i.toNat * 5)).block, (ad.add (i.toNat * 5)).off + 3, none⟩ = some (.string (rd_T109 xs i).f3) ∧ w.cell? ⟨(ad.add (i.toNat * 5)).block, (ad.add (i.toNat * 5)).off + 4, none⟩ = some (.slice A4 (rd_T109 xs i).f4.length c4) ∧ (rd_T109 xs i).f4.length ≤ c4 ∧ (Kd.int .i64).C w A4 (rd_T109 xs i).f4.length (rd_T109 xs i).f4 := by
 obtain ⟨ad, c, e, _, hK, hc0⟩ := Kd.C_get h z109 i h0 h1
 have hc : ∀ j u, c[j]? = some u → w.cell? (ad.add (i.toNat * 5 + j)) = some u := hc0
 obtain ⟨A4, c4, rfl, l4, g4⟩ := k109_open hK
 exact ⟨ad, A4, c4, e, hc 0 _ rfl, by rw [← add_field _ _ 1 (by omega)]; exact hc 1 _ rfl, by rw [← add_field _ _ 2 (by omega)]; exact hc 2 _ rfl, by rw [← add_field _ _ 3 (by omega)]; exact hc 3 _ rfl, by rw [← add_field _ _ 4 (by omega)]; exact hc 4 _ rfl, l4, g4⟩
theorem at_B109 {w W : World} {A : Option Addr} {n : Nat} {xs : List S109} (h : Aside0 (Kd.C k109 w A n xs)) (i : Int) (h0 : decide (0 ≤ i) = true) (h1 : decide (i < (n : Int)) = true) (hb : Aside0 (Below w.heap.size w W)) : ∃ ad A4 c4, A = some ad ∧ (0 ≤ i) = True ∧ (i < (n : Int)) = True ∧ W.cell? (ad.add (i.toNat * 5)) = some (.int .i64 (rd_T109 xs i).f0) ∧ W.cell? ⟨(ad.add (i.toNat * 5)).block, (ad.add (i.toNat * 5)).off + 1, none⟩ = some (.int .i64 (rd_T109 xs i).f1) ∧ W.cell? ⟨(ad.add (i.toNat * 5)).block, (ad.add (i.toNat * 5)).off + 2, none⟩ = some (.int .i64 (rd_T109 xs i).f2) ∧ W.cell? ⟨(ad.add (i.toNat * 5)).block, (ad.add (i.toNat * 5)).off + 3, none⟩ = some (.string (rd_T109 xs i).f3) ∧ W.cell? ⟨(ad.add (i.toNat * 5)).block, (ad.add (i.toNat * 5)).off + 4, none⟩ = some (.slice A4 (rd_T109 xs i).f4.length c4) ∧ Aside0 ((rd_T109 xs i).f4.length ≤ c4) ∧ Aside0 ((Kd.int .i64).C w A4 (rd_T109 xs i).f4.length (rd_T109 xs i).f4) := by
 obtain ⟨ad, A4, c4, e, y0, y1, y2, y3, y4, y5, y6⟩ := at_T109 h.out i (of_decide_eq_true h0) (of_decide_eq_true h1)
 exact ⟨ad, A4, c4, e, eq_true (of_decide_eq_true h0), eq_true (of_decide_eq_true h1), Xm hb y0, Xm hb y1, Xm hb y2, Xm hb y3, Xm hb y4, ⟨y5⟩, ⟨y6⟩⟩
structure S113 where
  f0 : Int
  f1 : Int
  f2 : Int
  f3 : ByteArray
  f4 : (List Int)
def z113 : S113 := ⟨(0 : Int), (0 : Int), (0 : Int), (⟨#[]⟩ : ByteArray), ([] : List Int)⟩
def k113 : Kd S113 := Kd.iso (Kd.pair (Kd.int .i64) (Kd.pair (Kd.int .i64) (Kd.pair (Kd.int .i64) (Kd.pair Kd.string (Kd.slice 3 (Kd.int .i64)))))) (fun x : S113 => (x.f0, x.f1, x.f2, x.f3, x.f4))
theorem k113_heap : Kd.Heap k113 := Kd.heap_iso _ (Kd.heap_pair (Kd.heap_int .i64) (Kd.heap_pair (Kd.heap_int .i64) (Kd.heap_pair (Kd.heap_int .i64) (Kd.heap_pair Kd.heap_string (Kd.heap_slice 3 (Kd.heap_int .i64))))))
theorem k113_open {w : World} {x : S113} {cs : List Value} (h : k113.K w x cs) : ∃ A4 c4, cs = [.int .i64 x.f0, .int .i64 x.f1, .int .i64 x.f2, .string x.f3, .slice A4 x.f4.length c4] ∧ x.f4.length ≤ c4 ∧ (Kd.int .i64).C w A4 x.f4.length x.f4 := by
 obtain ⟨_, _, rfl, rfl, ⟨_, _, rfl, rfl, ⟨_, _, rfl, rfl, ⟨_, _, rfl, rfl, ⟨A4, c4, rfl, l4, g4⟩⟩⟩⟩⟩ := h
 exact ⟨A4, c4, rfl, l4, g4⟩
theorem k113_openM {w : World} {base : Nat} {ok : Nat → Prop} {x : S113} {cs : List Value} (h : k113.M w base ok x cs) : ∃ v4, cs = [.int .i64 x.f0, .int .i64 x.f1, .int .i64 x.f2, .string x.f3, v4] ∧ (Kd.int .i64).R 3 w base ok v4 x.f4 := by
 obtain ⟨_, _, rfl, rfl, ⟨_, _, rfl, rfl, ⟨_, _, rfl, rfl, ⟨_, _, rfl, rfl, ⟨v4, rfl, g4⟩⟩⟩⟩⟩ := h
 exact ⟨v4, rfl, g4⟩
theorem k113_mkM (w : World) (base : Nat) (ok : Nat → Prop) (x : S113) {v4 : Value} (g4 : (Kd.int .i64).R 3 w base ok v4 x.f4) : k113.M w base ok x [.int .i64 x.f0, .int .i64 x.f1, .int .i64 x.f2, .string x.f3, v4] := ⟨[.int .i64 x.f0], [.int .i64 x.f1, .int .i64 x.f2, .string x.f3, v4], rfl, rfl, ⟨[.int .i64 x.f1], [.int .i64 x.f2, .string x.f3, v4], rfl, rfl, ⟨[.int .i64 x.f2], [.string x.f3, v4], rfl, rfl, ⟨[.string x.f3], [v4], rfl, rfl, ⟨v4, rfl, g4⟩⟩⟩⟩⟩
def rd_T113 (xs : List S113) (i : Int) : S113 := xs.getD i.toNat z113
theorem at_T113 {w : World} {A : Option Addr} {n : Nat} {xs : List S113} (h : Kd.C k113 w A n xs) (i : Int) (h0 : 0 ≤ i) (h1 : i < n) : ∃ ad A4 c4, A = some ad ∧ w.cell? (ad.add (i.toNat * 5)) = some (.int .i64 (rd_T113 xs i).f0) ∧ w.cell? ⟨(ad.add (i.toNat * 5)).block, (ad.add (i.toNat * 5)).off + 1, none⟩ = some (.int .i64 (rd_T113 xs i).f1) ∧ w.cell? ⟨(ad.add (i.toNat * 5)).block, (ad.add (i.toNat * 5)).off + 2, none⟩ = some (.int .i64 (rd_T113 xs i).f2) ∧ w.cell? ⟨(ad.add (i.toNat * 5)).block, (ad.add (i.toNat * 5)).off + 3, none⟩ = some (.string (rd_T113 xs i).f3) ∧ w.cell? ⟨(ad.add (i.toNat * 5)).block, (ad.add (i.toNat * 5)).off + 4, none⟩ = some (.slice A4 (rd_T113 xs i).f4.length c4) ∧ (rd_T113 xs i).f4.length ≤ c4 ∧ (Kd.int .i64).C w A4 (rd_T113 xs i).f4.length (rd_T113 xs i).f4 := by
 obtain ⟨ad, c, e, _, hK, hc0⟩ := Kd.C_get h z113 i h0 h1
 have hc : ∀ j u, c[j]? = some u → w.cell? (ad.add (i.toNat * 5 + j)) = some u := hc0
 obtain ⟨A4, c4, rfl, l4, g4⟩ := k113_open hK
 exact ⟨ad, A4, c4, e, hc 0 _ rfl, by rw [← add_field _ _ 1 (by omega)]; exact hc 1 _ rfl, by rw [← add_field _ _ 2 (by omega)]; exact hc 2 _ rfl, by rw [← add_field _ _ 3 (by omega)]; exact hc 3 _ rfl, by rw [← add_field _ _ 4 (by omega)]; exact hc 4 _ rfl, l4, g4⟩
theorem at_B113 {w W : World} {A : Option Addr} {n : Nat} {xs : List S113} (h : Aside0 (Kd.C k113 w A n xs)) (i : Int) (h0 : decide (0 ≤ i) = true) (h1 : decide (i < (n : Int)) = true) (hb : Aside0 (Below w.heap.size w W)) : ∃ ad A4 c4, A = some ad ∧ (0 ≤ i) = True ∧ (i < (n : Int)) = True ∧ W.cell? (ad.add (i.toNat * 5)) = some (.int .i64 (rd_T113 xs i).f0) ∧ W.cell? ⟨(ad.add (i.toNat * 5)).block, (ad.add (i.toNat * 5)).off + 1, none⟩ = some (.int .i64 (rd_T113 xs i).f1) ∧ W.cell? ⟨(ad.add (i.toNat * 5)).block, (ad.add (i.toNat * 5)).off + 2, none⟩ = some (.int .i64 (rd_T113 xs i).f2) ∧ W.cell? ⟨(ad.add (i.toNat * 5)).block, (ad.add (i.toNat * 5)).off + 3, none⟩ = some (.string (rd_T113 xs i).f3) ∧ W.cell? ⟨(ad.add (i.toNat * 5)).block, (ad.add (i.toNat * 5)).off + 4, none⟩ = some (.slice A4 (rd_T113 xs i).f4.length c4) ∧ Aside0 ((rd_T113 xs i).f4.length ≤ c4) ∧ Aside0 ((Kd.int .i64).C w A4 (rd_T113 xs i).f4.length (rd_T113 xs i).f4) := by
 obtain ⟨ad, A4, c4, e, y0, y1, y2, y3, y4, y5, y6⟩ := at_T113 h.out i (of_decide_eq_true h0) (of_decide_eq_true h1)
 exact ⟨ad, A4, c4, e, eq_true (of_decide_eq_true h0), eq_true (of_decide_eq_true h1), Xm hb y0, Xm hb y1, Xm hb y2, Xm hb y3, Xm hb y4, ⟨y5⟩, ⟨y6⟩⟩
structure S27 where
  f0 : Int
  f1 : Int
  f2 : Int
def z27 : S27 := ⟨(0 : Int), (0 : Int), (0 : Int)⟩
def k27 : Kd S27 := Kd.iso (Kd.pair (Kd.int .i64) (Kd.pair (Kd.int .i64) (Kd.int .i64))) (fun x : S27 => (x.f0, x.f1, x.f2))
theorem k27_open {w : World} {x : S27} {cs : List Value} (h : k27.K w x cs) : cs = [.int .i64 x.f0, .int .i64 x.f1, .int .i64 x.f2] := by
 obtain ⟨_, _, rfl, rfl, ⟨_, _, rfl, rfl, rfl⟩⟩ := h
 exact rfl
def rd_T27 (xs : List S27) (i : Int) : S27 := xs.getD i.toNat z27
theorem at_T27 {w : World} {A : Option Addr} {n : Nat} {xs : List S27} (h : Kd.C k27 w A n xs) (i : Int) (h0 : 0 ≤ i) (h1 : i < n) : ∃ ad , A = some ad ∧ w.cell? (ad.add (i.toNat * 3)) = some (.int .i64 (rd_T27 xs i).f0) ∧ w.cell? ⟨(ad.add (i.toNat * 3)).block, (ad.add (i.toNat * 3)).off + 1, none⟩ = some (.int .i64 (rd_T27 xs i).f1) ∧ w.cell? ⟨(ad.add (i.toNat * 3)).block, (ad.add (i.toNat * 3)).off + 2, none⟩ = some (.int .i64 (rd_T27 xs i).f2) := by
 obtain ⟨ad, c, e, _, hK, hc0⟩ := Kd.C_get h z27 i h0 h1
 have hc : ∀ j u, c[j]? = some u → w.cell? (ad.add (i.toNat * 3 + j)) = some u := hc0
 obtain rfl := k27_open hK
 exact ⟨ad, e, hc 0 _ rfl, by rw [← add_field _ _ 1 (by omega)]; exact hc 1 _ rfl, by rw [← add_field _ _ 2 (by omega)]; exact hc 2 _ rfl⟩
theorem at_B27 {w W : World} {A : Option Addr} {n : Nat} {xs : List S27} (h : Aside0 (Kd.C k27 w A n xs)) (i : Int) (h0 : decide (0 ≤ i) = true) (h1 : decide (i < (n : Int)) = true) (hb : Aside0 (Below w.heap.size w W)) : ∃ ad , A = some ad ∧ (0 ≤ i) = True ∧ (i < (n : Int)) = True ∧ W.cell? (ad.add (i.toNat * 3)) = some (.int .i64 (rd_T27 xs i).f0) ∧ W.cell? ⟨(ad.add (i.toNat * 3)).block, (ad.add (i.toNat * 3)).off + 1, none⟩ = some (.int .i64 (rd_T27 xs i).f1) ∧ W.cell? ⟨(ad.add (i.toNat * 3)).block, (ad.add (i.toNat * 3)).off + 2, none⟩ = some (.int .i64 (rd_T27 xs i).f2) := by
 obtain ⟨ad, e, y0, y1, y2⟩ := at_T27 h.out i (of_decide_eq_true h0) (of_decide_eq_true h1)
 exact ⟨ad, e, eq_true (of_decide_eq_true h0), eq_true (of_decide_eq_true h1), Xm hb y0, Xm hb y1, Xm hb y2⟩
structure S39 where
  f0 : Int
  f1 : Int
  f2 : Int
def z39 : S39 := ⟨(0 : Int), (0 : Int), (0 : Int)⟩
def k39 : Kd S39 := Kd.iso (Kd.pair (Kd.int .i64) (Kd.pair (Kd.int .i64) (Kd.int .i64))) (fun x : S39 => (x.f0, x.f1, x.f2))
theorem k39_heap : Kd.Heap k39 := Kd.heap_iso _ (Kd.heap_pair (Kd.heap_int .i64) (Kd.heap_pair (Kd.heap_int .i64) (Kd.heap_int .i64)))
theorem k39_open {w : World} {x : S39} {cs : List Value} (h : k39.K w x cs) : cs = [.int .i64 x.f0, .int .i64 x.f1, .int .i64 x.f2] := by
 obtain ⟨_, _, rfl, rfl, ⟨_, _, rfl, rfl, rfl⟩⟩ := h
 exact rfl
theorem k39_openM {w : World} {base : Nat} {ok : Nat → Prop} {x : S39} {cs : List Value} (h : k39.M w base ok x cs) : cs = [.int .i64 x.f0, .int .i64 x.f1, .int .i64 x.f2] := by
 obtain ⟨_, _, rfl, rfl, ⟨_, _, rfl, rfl, rfl⟩⟩ := h
 exact rfl
theorem k39_mkM (w : World) (base : Nat) (ok : Nat → Prop) (x : S39)  : k39.M w base ok x [.int .i64 x.f0, .int .i64 x.f1, .int .i64 x.f2] := ⟨[.int .i64 x.f0], [.int .i64 x.f1, .int .i64 x.f2], rfl, rfl, ⟨[.int .i64 x.f1], [.int .i64 x.f2], rfl, rfl, rfl⟩⟩
def rd_T39 (xs : List S39) (i : Int) : S39 := xs.getD i.toNat z39
theorem at_T39 {w : World} {A : Option Addr} {n : Nat} {xs : List S39} (h : Kd.C k39 w A n xs) (i : Int) (h0 : 0 ≤ i) (h1 : i < n) : ∃ ad , A = some ad ∧ w.cell? (ad.add (i.toNat * 3)) = some (.int .i64 (rd_T39 xs i).f0) ∧ w.cell? ⟨(ad.add (i.toNat * 3)).block, (ad.add (i.toNat * 3)).off + 1, none⟩ = some (.int .i64 (rd_T39 xs i).f1) ∧ w.cell? ⟨(ad.add (i.toNat * 3)).block, (ad.add (i.toNat * 3)).off + 2, none⟩ = some (.int .i64 (rd_T39 xs i).f2) := by
 obtain ⟨ad, c, e, _, hK, hc0⟩ := Kd.C_get h z39 i h0 h1
 have hc : ∀ j u, c[j]? = some u → w.cell? (ad.add (i.toNat * 3 + j)) = some u := hc0
 obtain rfl := k39_open hK
 exact ⟨ad, e, hc 0 _ rfl, by rw [← add_field _ _ 1 (by omega)]; exact hc 1 _ rfl, by rw [← add_field _ _ 2 (by omega)]; exact hc 2 _ rfl⟩
theorem at_B39 {w W : World} {A : Option Addr} {n : Nat} {xs : List S39} (h : Aside0 (Kd.C k39 w A n xs)) (i : Int) (h0 : decide (0 ≤ i) = true) (h1 : decide (i < (n : Int)) = true) (hb : Aside0 (Below w.heap.size w W)) : ∃ ad , A = some ad ∧ (0 ≤ i) = True ∧ (i < (n : Int)) = True ∧ W.cell? (ad.add (i.toNat * 3)) = some (.int .i64 (rd_T39 xs i).f0) ∧ W.cell? ⟨(ad.add (i.toNat * 3)).block, (ad.add (i.toNat * 3)).off + 1, none⟩ = some (.int .i64 (rd_T39 xs i).f1) ∧ W.cell? ⟨(ad.add (i.toNat * 3)).block, (ad.add (i.toNat * 3)).off + 2, none⟩ = some (.int .i64 (rd_T39 xs i).f2) := by
 obtain ⟨ad, e, y0, y1, y2⟩ := at_T39 h.out i (of_decide_eq_true h0) (of_decide_eq_true h1)
 exact ⟨ad, e, eq_true (of_decide_eq_true h0), eq_true (of_decide_eq_true h1), Xm hb y0, Xm hb y1, Xm hb y2⟩
structure S24 where
  f0 : Int
  f1 : Int
  f2 : (List S109)
def k24 : Kd S24 := Kd.iso (Kd.pair (Kd.int .i64) (Kd.pair (Kd.int .i64) (Kd.slice 109 k109))) (fun x : S24 => (x.f0, x.f1, x.f2))
theorem k24_open {w : World} {x : S24} {cs : List Value} (h : k24.K w x cs) : ∃ A2 c2, cs = [.int .i64 x.f0, .int .i64 x.f1, .slice A2 x.f2.length c2] ∧ x.f2.length ≤ c2 ∧ k109.C w A2 x.f2.length x.f2 := by
 obtain ⟨_, _, rfl, rfl, ⟨_, _, rfl, rfl, ⟨A2, c2, rfl, l2, g2⟩⟩⟩ := h
 exact ⟨A2, c2, rfl, l2, g2⟩
structure S49 where
  f0 : (List S27)
  f1 : (List S27)
def k49 : Kd S49 := Kd.iso (Kd.pair (Kd.slice 27 k27) (Kd.slice 27 k27)) (fun x : S49 => (x.f0, x.f1))
theorem k49_open {w : World} {x : S49} {cs : List Value} (h : k49.K w x cs) : ∃ A0 c0 A1 c1, cs = [.slice A0 x.f0.length c0, .slice A1 x.f1.length c1] ∧ x.f0.length ≤ c0 ∧ k27.C w A0 x.f0.length x.f0 ∧ x.f1.length ≤ c1 ∧ k27.C w A1 x.f1.length x.f1 := by
 obtain ⟨_, _, rfl, ⟨A0, c0, rfl, l0, g0⟩, ⟨A1, c1, rfl, l1, g1⟩⟩ := h
 exact ⟨A0, c0, A1, c1, rfl, l0, g0, l1, g1⟩
structure S35 where
  f0 : Int
  f1 : Int
  f2 : (List S113)
structure S53 where
  f0 : (List S39)
  f1 : (List S39)
theorem footT113_4 {w : World} {S : Nat → Prop} {A : Option Addr} {n : Nat} {xs : List S113} (h : ∀ W_, Kept w W_ S → Kd.C k113 W_ A n xs) (i : Int) (h0 : 0 ≤ i) (h1 : i < n) :
    ∃ ad A4 c4, A = some ad ∧ (∀ W_, Kept w W_ S → W_.cell? ⟨(ad.add (i.toNat * 5)).block, (ad.add (i.toNat * 5)).off + 4, none⟩ = some (.slice A4 (rd_T113 xs i).f4.length c4)) ∧ (rd_T113 xs i).f4.length ≤ c4 ∧ ∀ W_, Kept w W_ S → Kd.C (Kd.int .i64) W_ A4 (rd_T113 xs i).f4.length ((rd_T113 xs i).f4) := by
 obtain ⟨ad, A4, c4, e, hx0, hx1, hx2, hx3, hx4, l4, g4⟩ := at_T113 (h w (Kept.refl w S)) i h0 h1
 subst e
 have hb : ¬ S ad.block := XW.foot_block (by decide) h (by omega)
 have hc : ∀ W_, Kept w W_ S → W_.cell? ⟨(ad.add (i.toNat * 5)).block, (ad.add (i.toNat * 5)).off + 4, none⟩ = some (.slice A4 (rd_T113 xs i).f4.length c4) := fun W_ hW => XW.foot_cell hW (by first | (rw [add_block]; exact hb) | (show ¬ S (Addr.add _ _).block; rw [add_block]; exact hb)) hx4
 refine ⟨ad, A4, c4, rfl, hc, l4, fun W_ hW => ?_⟩
 obtain ⟨ad2, B4, d4, e2, hy0, hy1, hy2, hy3, hy4, m4, k4⟩ := at_T113 (h W_ hW) i h0 h1
 obtain rfl : ad = ad2 := by injection e2
 have hs := Option.some.inj (hy4.symm.trans (hc W_ hW))
 injection hs with ha _ _
 rw [← ha]
 exact k4
def laws_szIntS.f (l0 : List Int) (a1 : Int) : Option (Int) := if (wrap64 (a1 - (l0.length : Int))) < 0 then (some (-1)) else (some (wrap64 (a1 - (l0.length : Int))))
theorem laws_szIntS.calls (A0 : Option Addr) (c0 : Nat) (l0 : List Int) (a1 : Int) (r : Int) (w : World) (hr0 : Kd.C (Kd.int .i64) w A0 l0.length l0) (hc0 : l0.length ≤ c0) (h : laws_szIntS.f l0 a1 = some r) :
  Calls Tryz.prog 142 #[.slice A0 l0.length c0, .int .i64 a1] w fun e w' => e = .returned (.int .i64 r) ∧ Drawn0 w w' := by
 have HR0 := Aside0.mk hr0
 have HC0 := Aside0.mk hc0
 clear hr0 hc0
 have H : (if (wrap64 (a1 - (l0.length : Int))) < 0 then (some (-1)) else (some (wrap64 (a1 - (l0.length : Int))))) = some r := h
 clear h
 obtain ⟨c3b0, H⟩ | ⟨c3b0, H⟩ := Xit H
 ·obtain rfl := Option.some.inj H
  go_enter Tryz.func142, Tryz.ntmps142
  go_wp2
  go_ret
  exact ⟨Xr, Xdr⟩
 obtain rfl := Option.some.inj H
 go_enter Tryz.func142, Tryz.ntmps142
 go_wp2
 go_ret
 exact ⟨Xr, Xdr⟩
def laws_szNode.f (a0_0 : Int) (a0_1 : Int) (a0_2 : Int) (a0_3 : ByteArray) (l0_4 : List Int) (a1 : Int) : Option (Int) := if (wrap64 (a1 - (a0_3.size : Int))) < 0 then (some (-1)) else ((laws_szIntS.f l0_4 (wrap64 (a1 - (a0_3.size : Int)))).bind fun t102 => (if t102 < 0 then (some (-1)) else (some t102)))
theorem laws_szNode.calls (a0_0 : Int) (a0_1 : Int) (a0_2 : Int) (a0_3 : ByteArray) (A0_4 : Option Addr) (c0_4 : Nat) (l0_4 : List Int) (a1 : Int) (r : Int) (w : World) (hr0_4 : Kd.C (Kd.int .i64) w A0_4 l0_4.length l0_4) (hc0_4 : l0_4.length ≤ c0_4) (h : laws_szNode.f a0_0 a0_1 a0_2 a0_3 l0_4 a1 = some r) :
  Calls Tryz.prog 86 #[.agg #[.int .i64 a0_0, .int .i64 a0_1, .int .i64 a0_2, .string a0_3, .slice A0_4 l0_4.length c0_4], .int .i64 a1] w fun e w' => e = .returned (.int .i64 r) ∧ Below w.heap.size w w' := by
 have hu109 := Tryz.underlying109
 have HR0_4 := Aside0.mk hr0_4
 have HC0_4 := Aside0.mk hc0_4
 clear hr0_4 hc0_4
 have HB := Aside0.mk (Below.refl w.heap.size w)
 have H : (if (wrap64 (a1 - (a0_3.size : Int))) < 0 then (some (-1)) else ((laws_szIntS.f l0_4 (wrap64 (a1 - (a0_3.size : Int)))).bind fun t102 => (if t102 < 0 then (some (-1)) else (some t102)))) = some r := h
 clear h
 have HC3 := Aside0.mk H
 clear H
 go_enter Tryz.func86, Tryz.ntmps86
 go_upto_if 11 with (first | ((with_reducible refine gate_dst (N := 2) rfl ?_); refine Xbox 2 #[.int .i64 a0_0, .int .i64 a0_1, .int .i64 a0_2, .string a0_3, .slice A0_4 l0_4.length c0_4] 109 ?_; intro gb101 hg w4 hbox hb; have BK101 := Aside0.mk (hbox); have GE101 := Xge hg Xi; replace HB := Aside0.mk (below_step Xi hb); clear hb hbox hg; obtain ⟨hcz5_0, hcz5_1, hcz5_2, hcz5_3, hcz5_4⟩ := Xc5 BK101))
 have H := HC3.out
 clear HC3
 obtain ⟨c6b0, H⟩ | ⟨c6b0, H⟩ := Xit H
 ·(first | rw [c6b0] | (simp only [i64_w, i32_w]; rw [c6b0]) | skip)
  obtain rfl := Option.some.inj H
  go_wp2
  go_ret
  exact ⟨Xe, Xi⟩
 (first | rw [c6b0] | (simp only [i64_w, i32_w]; rw [c6b0]) | skip)
 obtain ⟨t102, A7, H⟩ := Xbi H
 try dsimp only at H
 have HC8 := Aside0.mk H
 clear H
 obtain ⟨hcz9_0, hcz9_1, hcz9_2, hcz9_3, hcz9_4⟩ := Xc5 BK101
 go_upto_if 17 with (first | ((with_reducible refine gate_callee (f := 142) rfl ?_); refine Xgo 15 Tryz.func142 #[.slice A0_4 l0_4.length c0_4, .int .i64 (wrap64 (a1 - (a0_3.size : Int)))] ?_; (with_reducible refine (laws_szIntS.calls _ _ l0_4 (wrap64 (a1 - (a0_3.size : Int))) t102 _ ?side1 ?side2 A7.out).mono ?_); (case side1 => exact Xc HR0_4); (case side2 => exact HC0_4.out); rintro e w' ⟨rfl, ⟨nd, rfl⟩⟩; refine ⟨_, rfl, ?_⟩))
 have H := HC8.out
 clear HC8
 obtain ⟨c10b0, H⟩ | ⟨c10b0, H⟩ := Xit H
 ·(first | rw [c10b0] | (simp only [i64_w, i32_w]; rw [c10b0]) | skip)
  obtain rfl := Option.some.inj H
  go_wp2
  go_ret
  exact ⟨Xe, Xi⟩
 (first | rw [c10b0] | (simp only [i64_w, i32_w]; rw [c10b0]) | skip)
 obtain rfl := Option.some.inj H
 go_wp2
 go_ret
 exact ⟨Xe, Xi⟩
def laws_szNodeS.l0 : Nat → List (S109) → Int → Int → Option (Int)
 | 0, _, _, _ => none
 | k + 1, x0, x1, x5 => if x5 < (x0.length : Int) then (if 0 ≤ x5 then ((laws_szNode.f ((rd_T109 x0 x5).f0) ((rd_T109 x0 x5).f1) ((rd_T109 x0 x5).f2) ((rd_T109 x0 x5).f3) ((rd_T109 x0 x5).f4) x1).bind fun t104 => (if t104 < 0 then (some (-1)) else (laws_szNodeS.l0 k x0 t104 (wrap64 (x5 + 1))))) else (none)) else (some x1)
def laws_szNodeS.f (k : Nat) (l0 : List (S109)) (a1 : Int) : Option (Int) := if (wrap64 (a1 - (l0.length : Int))) < 0 then (some (-1)) else (laws_szNodeS.l0 k l0 (wrap64 (a1 - (l0.length : Int))) 0)
theorem laws_szNodeS.calls (k : Nat) (A0 : Option Addr) (c0 : Nat) (l0 : List (S109)) (a1 : Int) (r : Int) (w : World) (hr0 : Kd.C k109 w A0 l0.length l0) (hc0 : l0.length ≤ c0) (h : laws_szNodeS.f k l0 a1 = some r) :
  Calls Tryz.prog 44 #[.slice A0 l0.length c0, .int .i64 a1] w fun e w' => e = .returned (.int .i64 r) ∧ Below w.heap.size w w' := by
 have hu109 := Tryz.underlying109
 have HR0 := Aside0.mk hr0
 have HC0 := Aside0.mk hc0
 clear hr0 hc0
 have HB := Aside0.mk (Below.refl w.heap.size w)
 have H : (if (wrap64 (a1 - (l0.length : Int))) < 0 then (some (-1)) else (laws_szNodeS.l0 k l0 (wrap64 (a1 - (l0.length : Int))) 0)) = some r := h
 clear h
 obtain ⟨c3b0, H⟩ | ⟨c3b0, H⟩ := Xit H
 ·obtain rfl := Option.some.inj H
  go_enter Tryz.func44, Tryz.ntmps44
  go_wp2
  go_ret
  exact ⟨Xe, Xi⟩
 have H' := Aside0.mk H
 clear H
 go_enter Tryz.func44, Tryz.ntmps44
 go_wp2
 go_loopg [1, 5] k (fun kq v1 v5 w' => ∃ (x1_1 : Int) (x5_1 : Int), v1 = .int .i64 x1_1 ∧ v5 = .int .i64 x5_1 ∧ Aside0 (laws_szNodeS.l0 kq l0 x1_1 x5_1 = some r) ∧ Aside0 (kq ≤ k) ∧ Aside0 (Below w.heap.size w w'))
 case atStart => exact ⟨(wrap64 (a1 - (l0.length : Int))), (0), Xr, Xr, H', Xkr, ⟨Xi⟩⟩
 clear H'
 (try clear c3); (try clear c3b0)
 obtain ⟨x1_1, x5_1, rfl, rfl, HA, HK1, HB⟩ := hrel
 cases gk with | zero => cases HA.out | succ k1 => ?_
 have H := HA.out
 clear HA
 simp only [laws_szNodeS.l0] at H
 obtain ⟨c4b0, H⟩ | ⟨c4b0, H⟩ := Xit H
 ·obtain ⟨c5b0, H⟩ := Xid H
  obtain ⟨t104, A6, H⟩ := Xbi H
  try dsimp only at H
  have HC7 := Aside0.mk H
  clear H
  obtain ⟨ad103, A103_4, c103_4, e103, p103, q103, hx103_0, hx103_1, hx103_2, hx103_3, hx103_4, HC103_4, HR103_4⟩ := at_B109 HR0 x5_1 Xa Xa HB
  cases e103
  go_upto_if 25 with (first | ((with_reducible refine gate_callee (f := 86) rfl ?_); refine Xgo 23 Tryz.func86 #[.agg #[.int .i64 ((rd_T109 l0 x5_1).f0), .int .i64 ((rd_T109 l0 x5_1).f1), .int .i64 ((rd_T109 l0 x5_1).f2), .string ((rd_T109 l0 x5_1).f3), .slice A103_4 ((rd_T109 l0 x5_1).f4).length c103_4], .int .i64 x1_1] ?_; (with_reducible refine (laws_szNode.calls ((rd_T109 l0 x5_1).f0) ((rd_T109 l0 x5_1).f1) ((rd_T109 l0 x5_1).f2) ((rd_T109 l0 x5_1).f3) _ _ ((rd_T109 l0 x5_1).f4) x1_1 t104 _ ?side1 ?side2 A6.out).mono ?_); (case side1 => exact Xc HR103_4); (case side2 => exact HC103_4.out); rintro e w8 ⟨rfl, hb⟩; refine ⟨_, rfl, ?_⟩; replace HB := Aside0.mk (below_step Xi hb); clear hb))
  have H := HC7.out
  clear HC7
  obtain ⟨c9b0, H⟩ | ⟨c9b0, H⟩ := Xit H
  ·(first | rw [c9b0] | (simp only [i64_w, i32_w]; rw [c9b0]) | skip)
   obtain rfl := Option.some.inj H
   go_wp2
   go_ret
   exact ⟨Xe, Xi⟩
  (first | rw [c9b0] | (simp only [i64_w, i32_w]; rw [c9b0]) | skip)
  have H' := Aside0.mk H
  clear H
  go_wp2
  go_roundg k1
  case measure => have := HK1.out; omega
  case rel => exact ⟨(t104), (wrap64 (x5_1 + 1)), Xr, Xr, H', Xk1, ⟨Xi⟩⟩
 obtain rfl := Option.some.inj H
 go_wp2
 go_ret
 exact ⟨Xe, Xi⟩
def laws_szDoc.f (k : Nat) (a0_0 : Int) (a0_1 : Int) (l0_2 : List (S109)) (a1 : Int) : Option (Int) := (laws_szNodeS.f k l0_2 a1).bind fun t106 => (if t106 < 0 then (some (-1)) else (some t106))
theorem laws_szDoc.calls (k : Nat) (a0_0 : Int) (a0_1 : Int) (A0_2 : Option Addr) (c0_2 : Nat) (l0_2 : List (S109)) (a1 : Int) (r : Int) (w : World) (hr0_2 : Kd.C k109 w A0_2 l0_2.length l0_2) (hc0_2 : l0_2.length ≤ c0_2) (h : laws_szDoc.f k a0_0 a0_1 l0_2 a1 = some r) :
  Calls Tryz.prog 7 #[.agg #[.int .i64 a0_0, .int .i64 a0_1, .slice A0_2 l0_2.length c0_2], .int .i64 a1] w fun e w' => e = .returned (.int .i64 r) ∧ Below w.heap.size w w' := by
 have hu24 := Tryz.underlying24
 have HR0_2 := Aside0.mk hr0_2
 have HC0_2 := Aside0.mk hc0_2
 clear hr0_2 hc0_2
 have HB := Aside0.mk (Below.refl w.heap.size w)
 have H : ((laws_szNodeS.f k l0_2 a1).bind fun t106 => (if t106 < 0 then (some (-1)) else (some t106))) = some r := h
 clear h
 obtain ⟨t106, A3, H⟩ := Xbi H
 try dsimp only at H
 have HC4 := Aside0.mk H
 clear H
 go_enter Tryz.func7, Tryz.ntmps7
 go_upto_if 10 with (first | ((with_reducible refine gate_dst (N := 2) rfl ?_); refine Xbox 2 #[.int .i64 a0_0, .int .i64 a0_1, .slice A0_2 l0_2.length c0_2] 24 ?_; intro gb105 hg w5 hbox hb; have BK105 := Aside0.mk (hbox); have GE105 := Xge hg Xi; replace HB := Aside0.mk (below_step Xi hb); clear hb hbox hg; obtain ⟨hcz6_0, hcz6_1, hcz6_2⟩ := Xc3 BK105) | ((with_reducible refine gate_callee (f := 44) rfl ?_); refine Xgo 8 Tryz.func44 #[.slice A0_2 l0_2.length c0_2, .int .i64 a1] ?_; (with_reducible refine (laws_szNodeS.calls k _ _ l0_2 a1 t106 _ ?side1 ?side2 A3.out).mono ?_); (case side1 => exact Xc HR0_2); (case side2 => exact HC0_2.out); rintro e w7 ⟨rfl, hb⟩; refine ⟨_, rfl, ?_⟩; replace BK105 := Xbb BK105 hb; replace HB := Aside0.mk (below_step Xi hb); clear hb))
 have H := HC4.out
 clear HC4
 obtain ⟨c8b0, H⟩ | ⟨c8b0, H⟩ := Xit H
 ·(first | rw [c8b0] | (simp only [i64_w, i32_w]; rw [c8b0]) | skip)
  obtain rfl := Option.some.inj H
  go_wp2
  go_ret
  exact ⟨Xe, Xi⟩
 (first | rw [c8b0] | (simp only [i64_w, i32_w]; rw [c8b0]) | skip)
 obtain rfl := Option.some.inj H
 go_wp2
 go_ret
 exact ⟨Xe, Xi⟩
def laws_toIntS.l0 : Nat → List Int → List Int → Int → Option (List Int)
 | 0, _, _, _ => none
 | k + 1, x0, x3, x4 => if x4 < (x0.length : Int) then (if 0 ≤ x4 then (if x4 < (x3.length : Int) then (laws_toIntS.l0 k x0 (x3.set (x4 : Int).toNat (rd x0 x4)) (wrap64 (x4 + 1))) else (none)) else (none)) else (some x3)
def laws_toIntS.f (k : Nat) (l0 : List Int) : Option (List Int) := if 0 ≤ (l0.length : Int) then (if ((l0.length : Int) : Int).toNat ≤ 35184372088832 then (laws_toIntS.l0 k l0 (List.replicate ((l0.length : Int) : Int).toNat 0) 0) else (none)) else (none)
theorem laws_toIntS.calls (k : Nat) (A0 : Option Addr) (c0 : Nat) (l0 : List Int) (r : List Int) (w : World) (hr0 : Kd.C (Kd.int .i64) w A0 l0.length l0) (hc0 : l0.length ≤ c0) (h : laws_toIntS.f k l0 = some r) :
  Calls Tryz.prog 147 #[.slice A0 l0.length c0] w fun e w' => ∃ v0_ : Value, e = .returned (v0_) ∧ Kd.R (Kd.int .i64) 3 w' w.heap.size (fun _ => True) v0_ r ∧ Below w.heap.size w w' := by
 have HR0 := Aside0.mk hr0
 have HC0 := Aside0.mk hc0
 clear hr0 hc0
 have HB := Aside0.mk (Below.refl w.heap.size w)
 have H : (if 0 ≤ (l0.length : Int) then (if ((l0.length : Int) : Int).toNat ≤ 35184372088832 then (laws_toIntS.l0 k l0 (List.replicate ((l0.length : Int) : Int).toNat 0) 0) else (none)) else (none)) = some r := h
 clear h
 obtain ⟨c2, H⟩ | ⟨c2, H⟩ := Xiu H
 ·have c2b0 := eq_true c2
  have c2b1 : decide (0 ≤ (l0.length : Int)) = true := decide_eq_true c2
  clear c2
  obtain ⟨c3, H⟩ := Xif H
  have c3b0 := eq_true c3
  have c3b1 : decide (((l0.length : Int) : Int).toNat ≤ 35184372088832) = true := decide_eq_true c3
  clear c3
  obtain ⟨y107, hy107⟩ : ∃ y_ : List Int, y_ = (List.replicate ((l0.length : Int) : Int).toNat 0) := ⟨_, rfl⟩
  replace H : (laws_toIntS.l0 k l0 y107 0) = some r := by first | (rw [hy107]; with_reducible exact H) | (have H2_ := (Option.bind_some _ _).symm.trans H; rw [hy107]; with_reducible exact H2_) | (have H2_ := (Option.bind_some _ _).symm.trans H; with_reducible exact H2_) | with_reducible exact H | (rw [hy107]; exact H) | exact H
  have Ny107 := Aside0.mk hy107
  clear hy107
  have H' := Aside0.mk H
  clear H
  go_enter Tryz.func147, Tryz.ntmps147
  go_wp2_with (first | ((with_reducible refine gate_dst (N := 7) rfl ?_); refine Kd.R_make (Kd.int .i64) _ 3 rfl (N := 7) rfl 30 _ _ rfl (l0.length : Int) rfl rfl Tryz.underlying30 (.int .i64 0) 8 info3 rfl (by decide) (by omega) 0 (ok := fun _ => True) (okp := fun _ => True) rfl (fun _ hk => hk) trivial (of_decide_eq_true Xa) (Nat.le_trans (Nat.mul_le_mul_right _ (of_decide_eq_true Xa : (l0.length : Int).toNat ≤ 35184372088832)) (by omega)) (Below.refl _ _) (Nat.le_refl _) ?_; intro v108 w4 ho5 hb hg_ hnew_; clear hg_ hnew_; (first | rw [← Ny107.out] at ho5 | (simp only [Int.reduceToNat] at ho5; rw [← Ny107.out] at ho5)); have HO109 := Aside0.mk (Kd.R_lower ho5 (below_size Xi)); replace HB := Aside0.mk (below_step Xi hb); clear hb ho5))
  go_loopg [4] k (fun kq v4 w' => ∃ (x3_1 : List Int) (x4_1 : Int), v4 = .int .i64 x4_1 ∧ Aside0 (laws_toIntS.l0 kq l0 x3_1 x4_1 = some r) ∧ Aside0 (kq ≤ k) ∧ Aside0 (Kd.R (Kd.int .i64) 3 w' w.heap.size (fun _ => True) v108 x3_1) ∧ Aside0 (Below w.heap.size w w'))
  case atStart => exact ⟨(y107), (0), Xr, H', Xkr, (Xp' HO109), ⟨Xi⟩⟩
  clear H'
  (try clear c2); (try clear c2b0); (try clear c2b1); (try clear c3); (try clear c3b0); (try clear c3b1)
  obtain ⟨x3_1, x4_1, rfl, HA, HK1, HO_3, HB⟩ := hrel
  cases gk with | zero => cases HA.out | succ k1 => ?_
  have H := HA.out
  clear HA
  simp only [laws_toIntS.l0] at H
  obtain ⟨c6b0, H⟩ | ⟨c6b0, H⟩ := Xit H
  ·obtain ⟨c7b0, H⟩ := Xid H
   obtain ⟨c8b0, H⟩ := Xid H
   obtain ⟨y111, hy111⟩ : ∃ y_ : List Int, y_ = (x3_1.set (x4_1 : Int).toNat (rd l0 x4_1)) := ⟨_, rfl⟩
   replace H : (laws_toIntS.l0 k1 l0 y111 (wrap64 (x4_1 + 1))) = some r := by first | (rw [hy111]; with_reducible exact H) | (have H2_ := (Option.bind_some _ _).symm.trans H; rw [hy111]; with_reducible exact H2_) | (have H2_ := (Option.bind_some _ _).symm.trans H; with_reducible exact H2_) | with_reducible exact H | (rw [hy111]; exact H) | exact H
   have Ny111 := Aside0.mk hy111
   clear hy111
   have H' := Aside0.mk H
   clear H
   have p110 : 0 ≤ (x4_1 : Int) := of_decide_eq_true Xa
   have q110 : x4_1 < (l0.length : Int) := of_decide_eq_true Xa
   obtain ⟨ad110, e110, hx110_0⟩ := Kd.at_int HR0.out x4_1 p110 q110
   cases e110
   replace hx110_0 := Xm HB hx110_0
   replace p110 := eq_true p110
   replace q110 := eq_true q110
   have p9 : 0 ≤ (x4_1 : Int) := of_decide_eq_true Xa
   have q9 : (x4_1 : Int) < ((x3_1.length : Int) : Int) := of_decide_eq_true Xa
   obtain ⟨go9, co9, eo9, gb9, gl9, cl9, HG9⟩ := Kd.R_form HO_3.out (by omega)
   (first | cases eo9 | (injection eo9 with ea_ en_ ec_; (first | subst ea_ | (injection ea_ with ea_; subst ea_)); subst ec_; clear en_))
   have GB9 := Aside0.mk gb9
   have GG9 := Aside0.mk HG9
   clear gb9 gl9 HG9
   obtain ⟨hx9_0, hf9_0⟩ := Kd.R_celln 0 HO_3.out (x4_1 : Int) p9 q9
   replace p9 := eq_true p9
   replace q9 := eq_true q9
   have HP10 := Kd.R_putg HO_3.out (x4_1 : Int) (rd l0 x4_1)
   go_wp2_with (first | ((with_reducible refine gate_store (t := 3) (p := 20) rfl ?_); refine store_event (t := 3) (p := 20) (v := ?vo_w11) (w1 := (wr.setCell ⟨go9, (x4_1 : Int).toNat, none⟩ (.int .i64 (rd l0 x4_1)))) ?hg ?ho ?hn ?hr ?_; (case ho => rfl); (case hg => rfl); (case hn => rfl); (case hr => first | (go_simp; done) | (go_simp; rfl)); intro w11 hw; have hg : wr.grownBy w11 (some go9) := (by rw [hw]; exact HP10.2); have hp_ : Kd.R (Kd.int .i64) 3 w11 w.heap.size (fun _ => True) (.slice (some ⟨go9, 0, none⟩) x3_1.length co9) y111 := (by rw [hw, Ny111.out]; exact HP10.1); clear HP10; replace HO_3 := Aside0.mk (hp_); replace HB := Aside0.mk ((by rw [hw]; exact below_set (HB.out) GB9.out : Below w.heap.size w w11)); clear hg hw hp_))
   go_roundg k1
   case measure => have := HK1.out; omega
   case rel => exact ⟨(y111), (wrap64 (x4_1 + 1)), Xr, H', Xk1, (Xp' HO_3), ⟨Xi⟩⟩
  obtain rfl := Option.some.inj H
  go_wp2
  go_ret
  exact ⟨_, Xe, Xq HO_3, Xi⟩
 exact absurd H (by simp)
def laws_toNode.f (k : Nat) (a0_0 : Int) (a0_1 : Int) (a0_2 : Int) (a0_3 : ByteArray) (l0_4 : List Int) : Option (Int × Int × Int × ByteArray × List Int) := (laws_toIntS.f k l0_4).bind fun t115 => (some (a0_0, a0_1, a0_2, a0_3, t115))
theorem laws_toNode.calls (k : Nat) (a0_0 : Int) (a0_1 : Int) (a0_2 : Int) (a0_3 : ByteArray) (A0_4 : Option Addr) (c0_4 : Nat) (l0_4 : List Int) (r1 : Int) (r2 : Int) (r3 : Int) (r4 : ByteArray) (r5 : List Int) (w : World) (hr0_4 : Kd.C (Kd.int .i64) w A0_4 l0_4.length l0_4) (hc0_4 : l0_4.length ≤ c0_4) (h : laws_toNode.f k a0_0 a0_1 a0_2 a0_3 l0_4 = some (r1, r2, r3, r4, r5)) :
  Calls Tryz.prog 92 #[.agg #[.int .i64 a0_0, .int .i64 a0_1, .int .i64 a0_2, .string a0_3, .slice A0_4 l0_4.length c0_4]] w fun e w' => ∃ v4_ : Value, e = .returned (.agg #[.int .i64 r1, .int .i64 r2, .int .i64 r3, .string r4, v4_]) ∧ Kd.R (Kd.int .i64) 3 w' w.heap.size (fun _ => True) v4_ r5 ∧ Below w.heap.size w w' := by
 have hu109 := Tryz.underlying109
 have hu113 := Tryz.underlying113
 have HR0_4 := Aside0.mk hr0_4
 have HC0_4 := Aside0.mk hc0_4
 clear hr0_4 hc0_4
 have HB := Aside0.mk (Below.refl w.heap.size w)
 have H : ((laws_toIntS.f k l0_4).bind fun t115 => (some (a0_0, a0_1, a0_2, a0_3, t115))) = some (r1, r2, r3, r4, r5) := h
 clear h
 obtain ⟨t115, A2, H⟩ := Xbi H
 try dsimp only at H
 simp only [Option.some.injEq, Prod.mk.injEq] at H
 obtain ⟨rfl, rfl, rfl, rfl, rfl⟩ := H
 go_enter Tryz.func92, Tryz.ntmps92
 go_wp2_with (first | ((with_reducible refine gate_dst (N := 1) rfl ?_); refine Xbox 1 #[.int .i64 a0_0, .int .i64 a0_1, .int .i64 a0_2, .string a0_3, .slice A0_4 l0_4.length c0_4] 109 ?_; intro gb112 hg w3 hbox hb; have BK112 := Aside0.mk (hbox); have GE112 := Xge hg Xi; replace HB := Aside0.mk (below_step Xi hb); clear hb hbox hg) | ((with_reducible refine gate_dst (N := 2) rfl ?_); refine Xbox 2 #[.int .i64 0, .int .i64 0, .int .i64 0, .string (⟨#[]⟩ : ByteArray), .slice none 0 0] 113 ?_; intro gb113 hg w4 hbox hb; have BK113 := Aside0.mk (hbox); have GE113 := Xge hg Xi; replace HB := Aside0.mk (below_step Xi hb); have NB112_113 := Xnb hg BK112; have NB113_112 := Xns NB112_113; replace BK112 := Xbb BK112 hb; clear hb hbox hg) | ((with_reducible refine gate_dst (N := 3) rfl ?_); refine Xbox 3 #[.int .i64 0, .int .i64 0, .int .i64 0, .string (⟨#[]⟩ : ByteArray), .slice none 0 0] 113 ?_; intro gb114 hg w5 hbox hb; have BK114 := Aside0.mk (hbox); have GE114 := Xge hg Xi; replace HB := Aside0.mk (below_step Xi hb); have NB112_114 := Xnb hg BK112; have NB114_112 := Xns NB112_114; replace BK112 := Xbb BK112 hb; have NB113_114 := Xnb hg BK113; have NB114_113 := Xns NB113_114; replace BK113 := Xbb BK113 hb; clear hb hbox hg; have hnb6 := NB112_113.out; have hnc6 := NB113_112.out; have hnb7 := NB112_114.out; have hnc7 := NB114_112.out; obtain ⟨hcz8_0, hcz8_1, hcz8_2, hcz8_3, hcz8_4⟩ := Xc5 BK112; obtain ⟨hfz8_0, hfz8_1, hfz8_2, hfz8_3, hfz8_4⟩ := Xf5 BK112; have hnb9 := NB114_113.out; have hnc9 := NB113_114.out; obtain ⟨hcz10_0, hcz10_1, hcz10_2, hcz10_3, hcz10_4⟩ := Xc5 BK114; obtain ⟨hfz10_0, hfz10_1, hfz10_2, hfz10_3, hfz10_4⟩ := Xf5 BK114) | ((with_reducible refine gate_callee (f := 147) rfl ?_); refine Xgo 18 Tryz.func147 #[.slice A0_4 l0_4.length c0_4] ?_; (with_reducible refine (laws_toIntS.calls k _ _ l0_4 t115 _ ?side1 ?side2 A2.out).mono ?_); (case side1 => exact Xc HR0_4); (case side2 => exact HC0_4.out); rintro e w11 ⟨v116, rfl, ho0, hb⟩; refine ⟨_, rfl, ?_⟩; have HO117 := Aside0.mk (Kd.R_lower ho0 (below_size Xi)); replace BK112 := Aside0.mk (blk_below (g := gb112) (o := .cells #[.int .i64 a0_0, .int .i64 a0_1, .int .i64 a0_2, .string a0_3, .slice A0_4 l0_4.length c0_4] 109 (0, 0)) (by (with_reducible repeat (first | refine blk_drewN ?_ _ | refine blk_drew ?_ | refine blk_alloc ?_ _)); refine blk_far ?_ NB112_114.out _; (with_reducible repeat (first | refine blk_drewN ?_ _ | refine blk_drew ?_ | refine blk_alloc ?_ _)); refine blk_far ?_ NB112_114.out _; (with_reducible repeat (first | refine blk_drewN ?_ _ | refine blk_drew ?_ | refine blk_alloc ?_ _)); refine blk_far ?_ NB112_114.out _; (with_reducible repeat (first | refine blk_drewN ?_ _ | refine blk_drew ?_ | refine blk_alloc ?_ _)); refine blk_far ?_ NB112_114.out _; (with_reducible repeat (first | refine blk_drewN ?_ _ | refine blk_drew ?_ | refine blk_alloc ?_ _)); exact BK112.out) hb); replace BK113 := Aside0.mk (blk_below (g := gb113) (o := .cells #[.int .i64 0, .int .i64 0, .int .i64 0, .string (⟨#[]⟩ : ByteArray), .slice none 0 0] 113 (0, 0)) (by (with_reducible repeat (first | refine blk_drewN ?_ _ | refine blk_drew ?_ | refine blk_alloc ?_ _)); refine blk_far ?_ NB113_114.out _; (with_reducible repeat (first | refine blk_drewN ?_ _ | refine blk_drew ?_ | refine blk_alloc ?_ _)); refine blk_far ?_ NB113_114.out _; (with_reducible repeat (first | refine blk_drewN ?_ _ | refine blk_drew ?_ | refine blk_alloc ?_ _)); refine blk_far ?_ NB113_114.out _; (with_reducible repeat (first | refine blk_drewN ?_ _ | refine blk_drew ?_ | refine blk_alloc ?_ _)); refine blk_far ?_ NB113_114.out _; (with_reducible repeat (first | refine blk_drewN ?_ _ | refine blk_drew ?_ | refine blk_alloc ?_ _)); exact BK113.out) hb); replace BK114 := Aside0.mk (blk_below (g := gb114) (o := .cells #[.int .i64 a0_0, .int .i64 a0_1, .int .i64 a0_2, .string a0_3, .slice none 0 0] 113 (0, 0)) (by (with_reducible repeat (first | refine blk_drewN ?_ _ | refine blk_drew ?_ | refine blk_alloc ?_ _)); refine blk_put (cs := #[.int .i64 a0_0, .int .i64 a0_1, .int .i64 a0_2, .string (⟨#[]⟩ : ByteArray), .slice none 0 0]) ?_ 3 _ rfl; (with_reducible repeat (first | refine blk_drewN ?_ _ | refine blk_drew ?_ | refine blk_alloc ?_ _)); refine blk_put (cs := #[.int .i64 a0_0, .int .i64 a0_1, .int .i64 0, .string (⟨#[]⟩ : ByteArray), .slice none 0 0]) ?_ 2 _ rfl; (with_reducible repeat (first | refine blk_drewN ?_ _ | refine blk_drew ?_ | refine blk_alloc ?_ _)); refine blk_put (cs := #[.int .i64 a0_0, .int .i64 0, .int .i64 0, .string (⟨#[]⟩ : ByteArray), .slice none 0 0]) ?_ 1 _ rfl; (with_reducible repeat (first | refine blk_drewN ?_ _ | refine blk_drew ?_ | refine blk_alloc ?_ _)); refine blk_put (cs := #[.int .i64 0, .int .i64 0, .int .i64 0, .string (⟨#[]⟩ : ByteArray), .slice none 0 0]) ?_ 0 _ rfl; (with_reducible repeat (first | refine blk_drewN ?_ _ | refine blk_drew ?_ | refine blk_alloc ?_ _)); exact BK114.out) hb); replace HB := Aside0.mk (below_step Xi hb); clear hb; (try clear ho0); obtain ⟨Ao12, co12, eo12⟩ := Kd.R_slice HO117.out; subst eo12; obtain ⟨hcz13_0, hcz13_1, hcz13_2, hcz13_3, hcz13_4⟩ := Xc5 BK114; obtain ⟨hfz13_0, hfz13_1, hfz13_2, hfz13_3, hfz13_4⟩ := Xf5 BK114; obtain ⟨hcz14_0, hcz14_1, hcz14_2, hcz14_3, hcz14_4⟩ := Xc5 BK113; obtain ⟨hfz14_0, hfz14_1, hfz14_2, hfz14_3, hfz14_4⟩ := Xf5 BK113) | ((with_reducible refine gate_store (t := 113) (p := 2) rfl ?_); refine store_event (t := 113) (p := 2) (v := ?vo_w15) (w1 := ((((((w11.setCell ⟨gb114, 4, none⟩ (.slice Ao12 t115.length co12)).setCell ⟨gb113, 0, none⟩ (.int .i64 a0_0)).setCell ⟨gb113, 1, none⟩ (.int .i64 a0_1)).setCell ⟨gb113, 2, none⟩ (.int .i64 a0_2)).setCell ⟨gb113, 3, none⟩ (.string a0_3)).setCell ⟨gb113, 4, none⟩ (.slice Ao12 t115.length co12))) ?hg ?ho ?hn ?hr ?_; (case ho => rfl); (case hg => rfl); (case hn => rfl); (case hr => first | (go_simp; done) | (go_simp; rfl)); intro w15 hw; have n0_ : Aside0 (Kd.R (Kd.int .i64) 3 w15 w.heap.size (fun _ => True) (.slice Ao12 t115.length co12) t115) := ⟨(by rw [hw]; exact (by (with_reducible repeat (first | apply Kd.R_alloc | apply Kd.R_drewN | apply Kd.R_drew)); exact Kd.R_mono (Kd.R_far (p := ⟨gb113, 4, none⟩) (Kd.R_far (p := ⟨gb113, 3, none⟩) (Kd.R_far (p := ⟨gb113, 2, none⟩) (Kd.R_far (p := ⟨gb113, 1, none⟩) (Kd.R_far (p := ⟨gb113, 0, none⟩) (Kd.R_far (p := ⟨gb114, 4, none⟩) (Kd.R_types (Kd.R_types HO117.out BK114.out (by decide)) BK113.out (by decide)) (fun _ hk => hk.1.2) (.slice Ao12 t115.length co12)) (fun _ hk => hk.2) (.int .i64 a0_0)) (fun _ hk => hk.2) (.int .i64 a0_1)) (fun _ hk => hk.2) (.int .i64 a0_2)) (fun _ hk => hk.2) (.string a0_3)) (fun _ hk => hk.2) (.slice Ao12 t115.length co12)) (fun _ hk => trivial)))⟩; have n1_ : Aside0 (w15.heap[gb112]? = some (.cells #[.int .i64 a0_0, .int .i64 a0_1, .int .i64 a0_2, .string a0_3, .slice A0_4 l0_4.length c0_4] 109 (0, 0))) := ⟨(by rw [hw]; exact (by (with_reducible repeat (first | refine blk_drewN ?_ _ | refine blk_drew ?_ | refine blk_alloc ?_ _)); refine blk_far ?_ NB112_113.out _; (with_reducible repeat (first | refine blk_drewN ?_ _ | refine blk_drew ?_ | refine blk_alloc ?_ _)); refine blk_far ?_ NB112_113.out _; (with_reducible repeat (first | refine blk_drewN ?_ _ | refine blk_drew ?_ | refine blk_alloc ?_ _)); refine blk_far ?_ NB112_113.out _; (with_reducible repeat (first | refine blk_drewN ?_ _ | refine blk_drew ?_ | refine blk_alloc ?_ _)); refine blk_far ?_ NB112_113.out _; (with_reducible repeat (first | refine blk_drewN ?_ _ | refine blk_drew ?_ | refine blk_alloc ?_ _)); refine blk_far ?_ NB112_113.out _; (with_reducible repeat (first | refine blk_drewN ?_ _ | refine blk_drew ?_ | refine blk_alloc ?_ _)); refine blk_far ?_ NB112_114.out _; (with_reducible repeat (first | refine blk_drewN ?_ _ | refine blk_drew ?_ | refine blk_alloc ?_ _)); exact BK112.out))⟩; have n2_ : Aside0 (w15.heap[gb113]? = some (.cells #[.int .i64 a0_0, .int .i64 a0_1, .int .i64 a0_2, .string a0_3, .slice Ao12 t115.length co12] 113 (0, 0))) := ⟨(by rw [hw]; exact (by (with_reducible repeat (first | refine blk_drewN ?_ _ | refine blk_drew ?_ | refine blk_alloc ?_ _)); refine blk_put (cs := #[.int .i64 a0_0, .int .i64 a0_1, .int .i64 a0_2, .string a0_3, .slice none 0 0]) ?_ 4 _ rfl; (with_reducible repeat (first | refine blk_drewN ?_ _ | refine blk_drew ?_ | refine blk_alloc ?_ _)); refine blk_put (cs := #[.int .i64 a0_0, .int .i64 a0_1, .int .i64 a0_2, .string (⟨#[]⟩ : ByteArray), .slice none 0 0]) ?_ 3 _ rfl; (with_reducible repeat (first | refine blk_drewN ?_ _ | refine blk_drew ?_ | refine blk_alloc ?_ _)); refine blk_put (cs := #[.int .i64 a0_0, .int .i64 a0_1, .int .i64 0, .string (⟨#[]⟩ : ByteArray), .slice none 0 0]) ?_ 2 _ rfl; (with_reducible repeat (first | refine blk_drewN ?_ _ | refine blk_drew ?_ | refine blk_alloc ?_ _)); refine blk_put (cs := #[.int .i64 a0_0, .int .i64 0, .int .i64 0, .string (⟨#[]⟩ : ByteArray), .slice none 0 0]) ?_ 1 _ rfl; (with_reducible repeat (first | refine blk_drewN ?_ _ | refine blk_drew ?_ | refine blk_alloc ?_ _)); refine blk_put (cs := #[.int .i64 0, .int .i64 0, .int .i64 0, .string (⟨#[]⟩ : ByteArray), .slice none 0 0]) ?_ 0 _ rfl; (with_reducible repeat (first | refine blk_drewN ?_ _ | refine blk_drew ?_ | refine blk_alloc ?_ _)); refine blk_far ?_ NB113_114.out _; (with_reducible repeat (first | refine blk_drewN ?_ _ | refine blk_drew ?_ | refine blk_alloc ?_ _)); exact BK113.out))⟩; have n3_ : Aside0 (w15.heap[gb114]? = some (.cells #[.int .i64 a0_0, .int .i64 a0_1, .int .i64 a0_2, .string a0_3, .slice Ao12 t115.length co12] 113 (0, 0))) := ⟨(by rw [hw]; exact (by (with_reducible repeat (first | refine blk_drewN ?_ _ | refine blk_drew ?_ | refine blk_alloc ?_ _)); refine blk_far ?_ NB114_113.out _; (with_reducible repeat (first | refine blk_drewN ?_ _ | refine blk_drew ?_ | refine blk_alloc ?_ _)); refine blk_far ?_ NB114_113.out _; (with_reducible repeat (first | refine blk_drewN ?_ _ | refine blk_drew ?_ | refine blk_alloc ?_ _)); refine blk_far ?_ NB114_113.out _; (with_reducible repeat (first | refine blk_drewN ?_ _ | refine blk_drew ?_ | refine blk_alloc ?_ _)); refine blk_far ?_ NB114_113.out _; (with_reducible repeat (first | refine blk_drewN ?_ _ | refine blk_drew ?_ | refine blk_alloc ?_ _)); refine blk_far ?_ NB114_113.out _; (with_reducible repeat (first | refine blk_drewN ?_ _ | refine blk_drew ?_ | refine blk_alloc ?_ _)); refine blk_put (cs := #[.int .i64 a0_0, .int .i64 a0_1, .int .i64 a0_2, .string a0_3, .slice none 0 0]) ?_ 4 _ rfl; (with_reducible repeat (first | refine blk_drewN ?_ _ | refine blk_drew ?_ | refine blk_alloc ?_ _)); exact BK114.out))⟩; have n4_ : Aside0 (Below w.heap.size w w15) := ⟨(by rw [hw]; exact Xi)⟩; clear hw; clear HO117; clear BK112; clear BK113; clear BK114; clear HB; have HO117 := n0_; have BK112 := n1_; have BK113 := n2_; have BK114 := n3_; have HB := n4_; clear n0_ n1_ n2_ n3_ n4_))
 refine bodyPost_ret (results_cell_row rfl _ _ gb113 113 #[.int .i64 a0_0, .int .i64 a0_1, .int .i64 a0_2, .string a0_3, .slice Ao12 t115.length co12] (0, 0) _ rfl BK113.out Tryz.underlying113 rfl (by kernel_rfl)) rfl ?_
 exact ⟨_, Xe, Xq HO117, Xi⟩
def laws_toNodeS.l0 : Nat → List (S109) → List (S113) → Int → Option ((List (S113)))
 | 0, _, _, _ => none
 | k + 1, x0, x3, x4 => if x4 < (x0.length : Int) then (if 0 ≤ x4 then ((laws_toNode.f k ((rd_T109 x0 x4).f0) ((rd_T109 x0 x4).f1) ((rd_T109 x0 x4).f2) ((rd_T109 x0 x4).f3) ((rd_T109 x0 x4).f4)).bind fun bt122 => (if x4 < (x3.length : Int) then (laws_toNodeS.l0 k x0 (x3.set (x4 : Int).toNat (⟨bt122.1, bt122.2.1, bt122.2.2.1, bt122.2.2.2.1, bt122.2.2.2.2⟩ : S113)) (wrap64 (x4 + 1))) else (none))) else (none)) else (some x3)
def laws_toNodeS.f (k : Nat) (l0 : List (S109)) : Option ((List (S113))) := if 0 ≤ (l0.length : Int) then (if ((l0.length : Int) : Int).toNat ≤ 4398046511104 then (laws_toNodeS.l0 k l0 (List.replicate ((l0.length : Int) : Int).toNat z113) 0) else (none)) else (none)
theorem laws_toNodeS.calls (k : Nat) (A0 : Option Addr) (c0 : Nat) (l0 : List (S109)) (r : List (S113)) (w : World) (hr0 : Kd.C k109 w A0 l0.length l0) (hc0 : l0.length ≤ c0) (h : laws_toNodeS.f k l0 = some r) :
  Calls Tryz.prog 48 #[.slice A0 l0.length c0] w fun e w' => ∃ v0_ : Value, e = .returned (v0_) ∧ Kd.S k113 113 w' w.heap.size (fun _ => True) v0_ r ∧ Below w.heap.size w w' := by
 have hu109 := Tryz.underlying109
 have hu113 := Tryz.underlying113
 have HR0 := Aside0.mk hr0
 have HC0 := Aside0.mk hc0
 clear hr0 hc0
 have HB := Aside0.mk (Below.refl w.heap.size w)
 have H : (if 0 ≤ (l0.length : Int) then (if ((l0.length : Int) : Int).toNat ≤ 4398046511104 then (laws_toNodeS.l0 k l0 (List.replicate ((l0.length : Int) : Int).toNat z113) 0) else (none)) else (none)) = some r := h
 clear h
 obtain ⟨c2, H⟩ | ⟨c2, H⟩ := Xiu H
 ·have c2b0 := eq_true c2
  have c2b1 : decide (0 ≤ (l0.length : Int)) = true := decide_eq_true c2
  clear c2
  obtain ⟨c3, H⟩ := Xif H
  have c3b0 := eq_true c3
  have c3b1 : decide (((l0.length : Int) : Int).toNat ≤ 4398046511104) = true := decide_eq_true c3
  clear c3
  obtain ⟨y118, hy118⟩ : ∃ y_ : List (S113), y_ = (List.replicate ((l0.length : Int) : Int).toNat z113) := ⟨_, rfl⟩
  replace H : (laws_toNodeS.l0 k l0 y118 0) = some r := by first | (rw [hy118]; with_reducible exact H) | (have H2_ := (Option.bind_some _ _).symm.trans H; rw [hy118]; with_reducible exact H2_) | (have H2_ := (Option.bind_some _ _).symm.trans H; with_reducible exact H2_) | with_reducible exact H | (rw [hy118]; exact H) | exact H
  have Ny118 := Aside0.mk hy118
  clear hy118
  have H' := Aside0.mk H
  clear H
  go_enter Tryz.func48, Tryz.ntmps48
  go_wp2_with (first | ((with_reducible refine gate_dst (N := 7) rfl ?_); refine Kd.S_make k113 _ 113 rfl (N := 7) rfl 33 _ _ rfl (l0.length : Int) rfl rfl Tryz.underlying33 (.agg #[(.int .i64 0), (.int .i64 0), (.int .i64 0), (.string ⟨#[]⟩), (.slice none 0 0)]) 64 info113 rfl (by decide) (by omega) z113 (ok := fun _ => True) (okp := fun _ => True) (k113_mkM _ _ _ z113 (Kd.R_nil _ _ _ _ _)) (fun _ hk => hk) trivial (of_decide_eq_true Xa) (Nat.le_trans (Nat.mul_le_mul_right _ (of_decide_eq_true Xa : (l0.length : Int).toNat ≤ 4398046511104)) (by omega)) (Below.refl _ _) (Nat.le_refl _) ?_; intro v119 w4 ho5 hb hg_ hnew_; clear hg_ hnew_; (first | rw [← Ny118.out] at ho5 | (simp only [Int.reduceToNat] at ho5; rw [← Ny118.out] at ho5)); have HO120 := Aside0.mk (Kd.S_lower ho5 (below_size Xi)); replace HB := Aside0.mk (below_step Xi hb); clear hb ho5))
  go_loopg [4] k (fun kq v4 w' => ∃ (x3_1 : List (S113)) (x4_1 : Int), v4 = .int .i64 x4_1 ∧ Aside0 (laws_toNodeS.l0 kq l0 x3_1 x4_1 = some r) ∧ Aside0 (kq ≤ k) ∧ Aside0 (Kd.S k113 113 w' w.heap.size (fun _ => True) v119 x3_1) ∧ Aside0 (Below w.heap.size w w'))
  case atStart => exact ⟨(y118), (0), Xr, H', Xkr, (Xp' HO120), ⟨Xi⟩⟩
  clear H'
  (try clear c2); (try clear c2b0); (try clear c2b1); (try clear c3); (try clear c3b0); (try clear c3b1)
  obtain ⟨x3_1, x4_1, rfl, HA, HK1, HO_3, HB⟩ := hrel
  cases gk with | zero => cases HA.out | succ k1 => ?_
  have H := HA.out
  clear HA
  simp only [laws_toNodeS.l0] at H
  obtain ⟨c6b0, H⟩ | ⟨c6b0, H⟩ := Xit H
  ·obtain ⟨c7b0, H⟩ := Xid H
   replace H := Option.bind_eq_some_iff.mp H
   obtain ⟨⟨t122, t123, t124, t125, t126⟩, A80, H⟩ := H
   try dsimp only at H
   have A8 := Aside0.mk A80
   clear A80
   obtain ⟨c9b0, H⟩ := Xid H
   obtain ⟨y129, hy129⟩ : ∃ y_ : List (S113), y_ = (x3_1.set (x4_1 : Int).toNat (⟨t122, t123, t124, t125, t126⟩ : S113)) := ⟨_, rfl⟩
   replace H : (laws_toNodeS.l0 k1 l0 y129 (wrap64 (x4_1 + 1))) = some r := by first | (rw [hy129]; with_reducible exact H) | (have H2_ := (Option.bind_some _ _).symm.trans H; rw [hy129]; with_reducible exact H2_) | (have H2_ := (Option.bind_some _ _).symm.trans H; with_reducible exact H2_) | with_reducible exact H | (rw [hy129]; exact H) | exact H
   have Ny129 := Aside0.mk hy129
   clear hy129
   have H' := Aside0.mk H
   clear H
   obtain ⟨ad121, A121_4, c121_4, e121, p121, q121, hx121_0, hx121_1, hx121_2, hx121_3, hx121_4, HC121_4, HR121_4⟩ := at_B109 HR0 x4_1 Xa Xa HB
   cases e121
   go_wp2_with (first | ((with_reducible refine gate_callee (f := 92) rfl ?_); refine Xgo 20 Tryz.func92 #[.agg #[.int .i64 ((rd_T109 l0 x4_1).f0), .int .i64 ((rd_T109 l0 x4_1).f1), .int .i64 ((rd_T109 l0 x4_1).f2), .string ((rd_T109 l0 x4_1).f3), .slice A121_4 ((rd_T109 l0 x4_1).f4).length c121_4]] ?_; (with_reducible refine (laws_toNode.calls k1 ((rd_T109 l0 x4_1).f0) ((rd_T109 l0 x4_1).f1) ((rd_T109 l0 x4_1).f2) ((rd_T109 l0 x4_1).f3) _ _ ((rd_T109 l0 x4_1).f4) t122 t123 t124 t125 t126 _ ?side1 ?side2 A8.out).mono ?_); (case side1 => exact Xc HR121_4); (case side2 => exact HC121_4.out); rintro e w11 ⟨v127, rfl, ho0, hb⟩; refine ⟨_, rfl, ?_⟩; replace HO_3 := Aside0.mk (Kd.S_elder' (Xq HO_3) (Kd.R_base ho0) hb); have HO128 := Aside0.mk (Kd.R_lower ho0 (below_size Xi)); replace HB := Aside0.mk (below_step Xi hb); clear hb; (try clear ho0); have p10 : 0 ≤ (x4_1 : Int) := of_decide_eq_true Xa; have q10 : (x4_1 : Int) < ((x3_1.length : Int) : Int) := of_decide_eq_true Xa; obtain ⟨go10, co10, eo10, gb10, gl10, cl10, HG10⟩ := Kd.S_form HO_3.out (by omega); (first | cases eo10 | (injection eo10 with ea_ en_ ec_; (first | subst ea_ | (injection ea_ with ea_; subst ea_)); subst ec_; clear en_)); have GB10 := Aside0.mk gb10; have GG10 := Aside0.mk HG10; clear gb10 gl10 HG10; obtain ⟨_, ce10, hcl10, hM10, hcc10, hfr10, _, _⟩ := Kd.S_elem HO_3.out z113 (x4_1 : Int) p10 q10; obtain ⟨ve10_4, rfl, ge10_4⟩ := k113_openM hM10; have hx10_0 : w11.cell? ⟨go10, (x4_1 : Int).toNat * 5, none⟩ = some (.int .i64 ((rd_T113 x3_1 x4_1).f0)) := hcc10 0 _ rfl; have hx10_1 : w11.cell? ⟨go10, (x4_1 : Int).toNat * 5 + 1, none⟩ = some (.int .i64 ((rd_T113 x3_1 x4_1).f1)) := hcc10 1 _ rfl; have hx10_2 : w11.cell? ⟨go10, (x4_1 : Int).toNat * 5 + 2, none⟩ = some (.int .i64 ((rd_T113 x3_1 x4_1).f2)) := hcc10 2 _ rfl; have hx10_3 : w11.cell? ⟨go10, (x4_1 : Int).toNat * 5 + 3, none⟩ = some (.string ((rd_T113 x3_1 x4_1).f3)) := hcc10 3 _ rfl; have hx10_4 : w11.cell? ⟨go10, (x4_1 : Int).toNat * 5 + 4, none⟩ = some (ve10_4) := hcc10 4 _ rfl; have hf10_0 : w11.frozen? ⟨go10, (x4_1 : Int).toNat * 5, none⟩ = false := hfr10 0; have hf10_1 : w11.frozen? ⟨go10, (x4_1 : Int).toNat * 5 + 1, none⟩ = false := hfr10 1; have hf10_2 : w11.frozen? ⟨go10, (x4_1 : Int).toNat * 5 + 2, none⟩ = false := hfr10 2; have hf10_3 : w11.frozen? ⟨go10, (x4_1 : Int).toNat * 5 + 3, none⟩ = false := hfr10 3; have hf10_4 : w11.frozen? ⟨go10, (x4_1 : Int).toNat * 5 + 4, none⟩ = false := hfr10 4; clear hcl10 hcc10 hfr10; (try clear hM10); replace p10 := eq_true p10; replace q10 := eq_true q10; have n_ := Aside0.mk (Kd.S_mono (ok' := (fun k_ => some k_ ≠ (v127 : Value).ownBlock)) HO_3.out (fun k_ hk => hk.2)); clear HO_3; have HO_3 := n_; clear n_; have HX12 := Aside0.mk (show Kd.S k113 113 w11 w.heap.size (fun k_ => ((fun _ => True)) k_ ∧ ¬ ((fun k_ => some k_ = (v127 : Value).ownBlock)) k_) (.slice (some ⟨go10, 0, none⟩) x3_1.length co10) x3_1 from (by (with_reducible repeat (first | apply Kd.S_alloc | apply Kd.S_drewN | apply Kd.S_drew)); exact Kd.S_mono HO_3.out (fun k_ hk => ⟨trivial, fun e_ => hk e_⟩))); obtain ⟨oki12, ce12, hcl12, hM12, hcc12, hfr12, hoki12, hH12⟩ := Kd.S_elem HX12.out z113 (x4_1 : Int) (of_decide_eq_true Xa) (by have h_ : (x4_1 : Int) < ((x3_1.length : Int) : Int) := of_decide_eq_true Xa; first | exact h_ | (have e_ := (Kd.S_reads' HO_3.out).1; omega) | simpa using h_); obtain ⟨ve12_4, rfl, ge12_4⟩ := k113_openM hM12; have HP12 := Kd.S_seg hH12 (of_decide_eq_true Xa) (by have h_ : (x4_1 : Int) < ((x3_1.length : Int) : Int) := of_decide_eq_true Xa; first | exact h_ | (have e_ := (Kd.S_reads' HO_3.out).1; omega) | simpa using h_) (seg := [.int .i64 t122, .int .i64 t123, .int .i64 t124, .string t125, v127]) (j := 0) (show 5 ≤ 5 from by decide) (x' := (⟨t122, t123, t124, t125, t126⟩ : S113)) (k113_mkM _ _ _ (⟨t122, t123, t124, t125, t126⟩ : S113) (Kd.R_mono (Kd.R_tight rfl (Kd.R_mono (ok' := fun k_ => ((fun _ => True)) k_ ∧ k_ ≠ go10) (Kd.R_apart' (HO128.out) (Kd.S_typed HO_3.out) (by decide)) (fun k_ hk => ⟨trivial, fun e_ => (hk.2) (by rw [e_]; rfl)⟩))) (fun _ h_ => Or.inr (h_)))) (fun _ hk => hk) (fun k_ hk_ => ((Kd.R_mono (ok' := fun k_ => ((fun _ => True)) k_ ∧ k_ ≠ go10) (Kd.R_apart' (HO128.out) (Kd.S_typed HO_3.out) (by decide)) (fun k_ hk => ⟨trivial, fun e_ => (hk.2) (by rw [e_]; rfl)⟩))).1 k_ hk_.symm); have hx12_0 := hcc12 0 _ rfl; (try simp only [show (k113).sz = 5 from rfl, Nat.mul_one, Nat.add_zero] at hx12_0); have hf12_0 := hfr12 0; (try simp only [show (k113).sz = 5 from rfl, Nat.mul_one, Nat.add_zero] at hf12_0); have hx12_1 := hcc12 1 _ rfl; (try simp only [show (k113).sz = 5 from rfl, Nat.mul_one, Nat.add_zero] at hx12_1); have hf12_1 := hfr12 1; (try simp only [show (k113).sz = 5 from rfl, Nat.mul_one, Nat.add_zero] at hf12_1); have hx12_2 := hcc12 2 _ rfl; (try simp only [show (k113).sz = 5 from rfl, Nat.mul_one, Nat.add_zero] at hx12_2); have hf12_2 := hfr12 2; (try simp only [show (k113).sz = 5 from rfl, Nat.mul_one, Nat.add_zero] at hf12_2); have hx12_3 := hcc12 3 _ rfl; (try simp only [show (k113).sz = 5 from rfl, Nat.mul_one, Nat.add_zero] at hx12_3); have hf12_3 := hfr12 3; (try simp only [show (k113).sz = 5 from rfl, Nat.mul_one, Nat.add_zero] at hf12_3); have hx12_4 := hcc12 4 _ rfl; (try simp only [show (k113).sz = 5 from rfl, Nat.mul_one, Nat.add_zero] at hx12_4); have hf12_4 := hfr12 4; (try simp only [show (k113).sz = 5 from rfl, Nat.mul_one, Nat.add_zero] at hf12_4); clear hcl12 hcc12 hfr12 hoki12 hH12; (try clear hM12)) | ((with_reducible refine gate_store (t := 113) (p := 21) rfl ?_); refine store_event (t := 113) (p := 21) (v := ?vo_w13) (w1 := (((((w11.setCell ⟨go10, (x4_1 : Int).toNat * 5, none⟩ (.int .i64 t122)).setCell ⟨go10, (x4_1 : Int).toNat * 5 + 1, none⟩ (.int .i64 t123)).setCell ⟨go10, (x4_1 : Int).toNat * 5 + 2, none⟩ (.int .i64 t124)).setCell ⟨go10, (x4_1 : Int).toNat * 5 + 3, none⟩ (.string t125)).setCell ⟨go10, (x4_1 : Int).toNat * 5 + 4, none⟩ (v127))) ?hg ?ho ?hn ?hr ?_; (case ho => rfl); (case hg => rfl); (case hn => rfl); (case hr => first | (go_simp; done) | (go_simp; rfl) | (obtain ⟨_, _, hz0_⟩ := Kd.R_slice HO128.out; subst hz0_; first | (go_simp; done) | (go_simp; rfl))); intro w13 hw; have hg : w11.grownBy w13 (some go10) := (by rw [hw]; exact HP12.2); have hp_ : Kd.S k113 113 w13 w.heap.size (fun _ => True) (.slice (some ⟨go10, 0, none⟩) x3_1.length co10) y129 := (by rw [hw, Ny129.out]; exact HP12.1); clear HP12; replace HO_3 := Aside0.mk (hp_); replace HB := Aside0.mk ((by rw [hw]; exact below_set (below_set (below_set (below_set (below_set (HB.out) GB10.out) GB10.out) GB10.out) GB10.out) GB10.out : Below w.heap.size w w13)); clear HO128; clear hg hw hp_))
   go_roundg k1
   case measure => have := HK1.out; omega
   case rel => exact ⟨(y129), (wrap64 (x4_1 + 1)), Xr, H', Xk1, (Xp' HO_3), ⟨Xi⟩⟩
  obtain rfl := Option.some.inj H
  go_wp2
  go_ret
  exact ⟨_, Xe, Xq HO_3, Xi⟩
 exact absurd H (by simp)
def laws_toDoc.f (k : Nat) (a0_0 : Int) (a0_1 : Int) (l0_2 : List (S109)) : Option (Int × Int × (List (S113))) := (laws_toNodeS.f k l0_2).bind fun t133 => (some (a0_0, a0_1, t133))
theorem laws_toDoc.calls (k : Nat) (a0_0 : Int) (a0_1 : Int) (A0_2 : Option Addr) (c0_2 : Nat) (l0_2 : List (S109)) (r1 : Int) (r2 : Int) (r3 : List (S113)) (w : World) (hr0_2 : Kd.C k109 w A0_2 l0_2.length l0_2) (hc0_2 : l0_2.length ≤ c0_2) (h : laws_toDoc.f k a0_0 a0_1 l0_2 = some (r1, r2, r3)) :
  Calls Tryz.prog 10 #[.agg #[.int .i64 a0_0, .int .i64 a0_1, .slice A0_2 l0_2.length c0_2]] w fun e w' => ∃ v2_ : Value, e = .returned (.agg #[.int .i64 r1, .int .i64 r2, v2_]) ∧ Kd.S k113 113 w' w.heap.size (fun _ => True) v2_ r3 ∧ Below w.heap.size w w' := by
 have hu24 := Tryz.underlying24
 have hu35 := Tryz.underlying35
 have HR0_2 := Aside0.mk hr0_2
 have HC0_2 := Aside0.mk hc0_2
 clear hr0_2 hc0_2
 have HB := Aside0.mk (Below.refl w.heap.size w)
 have H : ((laws_toNodeS.f k l0_2).bind fun t133 => (some (a0_0, a0_1, t133))) = some (r1, r2, r3) := h
 clear h
 obtain ⟨t133, A2, H⟩ := Xbi H
 try dsimp only at H
 simp only [Option.some.injEq, Prod.mk.injEq] at H
 obtain ⟨rfl, rfl, rfl⟩ := H
 go_enter Tryz.func10, Tryz.ntmps10
 go_wp2_with (first | ((with_reducible refine gate_dst (N := 1) rfl ?_); refine Xbox 1 #[.int .i64 a0_0, .int .i64 a0_1, .slice A0_2 l0_2.length c0_2] 24 ?_; intro gb130 hg w3 hbox hb; have BK130 := Aside0.mk (hbox); have GE130 := Xge hg Xi; replace HB := Aside0.mk (below_step Xi hb); clear hb hbox hg) | ((with_reducible refine gate_dst (N := 2) rfl ?_); refine Xbox 2 #[.int .i64 0, .int .i64 0, .slice none 0 0] 35 ?_; intro gb131 hg w4 hbox hb; have BK131 := Aside0.mk (hbox); have GE131 := Xge hg Xi; replace HB := Aside0.mk (below_step Xi hb); have NB130_131 := Xnb hg BK130; have NB131_130 := Xns NB130_131; replace BK130 := Xbb BK130 hb; clear hb hbox hg) | ((with_reducible refine gate_dst (N := 3) rfl ?_); refine Xbox 3 #[.int .i64 0, .int .i64 0, .slice none 0 0] 35 ?_; intro gb132 hg w5 hbox hb; have BK132 := Aside0.mk (hbox); have GE132 := Xge hg Xi; replace HB := Aside0.mk (below_step Xi hb); have NB130_132 := Xnb hg BK130; have NB132_130 := Xns NB130_132; replace BK130 := Xbb BK130 hb; have NB131_132 := Xnb hg BK131; have NB132_131 := Xns NB131_132; replace BK131 := Xbb BK131 hb; clear hb hbox hg; have hnb6 := NB130_131.out; have hnc6 := NB131_130.out; have hnb7 := NB130_132.out; have hnc7 := NB132_130.out; obtain ⟨hcz8_0, hcz8_1, hcz8_2⟩ := Xc3 BK130; obtain ⟨hfz8_0, hfz8_1, hfz8_2⟩ := Xf3 BK130; have hnb9 := NB132_131.out; have hnc9 := NB131_132.out; obtain ⟨hcz10_0, hcz10_1, hcz10_2⟩ := Xc3 BK132; obtain ⟨hfz10_0, hfz10_1, hfz10_2⟩ := Xf3 BK132) | ((with_reducible refine gate_callee (f := 48) rfl ?_); refine Xgo 12 Tryz.func48 #[.slice A0_2 l0_2.length c0_2] ?_; (with_reducible refine (laws_toNodeS.calls k _ _ l0_2 t133 _ ?side1 ?side2 A2.out).mono ?_); (case side1 => exact Xc HR0_2); (case side2 => exact HC0_2.out); rintro e w11 ⟨v134, rfl, ho0, hb⟩; refine ⟨_, rfl, ?_⟩; have HO135 := Aside0.mk (Kd.S_lower ho0 (below_size Xi)); replace BK130 := Aside0.mk (blk_below (g := gb130) (o := .cells #[.int .i64 a0_0, .int .i64 a0_1, .slice A0_2 l0_2.length c0_2] 24 (0, 0)) (by (with_reducible repeat (first | refine blk_drewN ?_ _ | refine blk_drew ?_ | refine blk_alloc ?_ _)); refine blk_far ?_ NB130_132.out _; (with_reducible repeat (first | refine blk_drewN ?_ _ | refine blk_drew ?_ | refine blk_alloc ?_ _)); refine blk_far ?_ NB130_132.out _; (with_reducible repeat (first | refine blk_drewN ?_ _ | refine blk_drew ?_ | refine blk_alloc ?_ _)); exact BK130.out) hb); replace BK131 := Aside0.mk (blk_below (g := gb131) (o := .cells #[.int .i64 0, .int .i64 0, .slice none 0 0] 35 (0, 0)) (by (with_reducible repeat (first | refine blk_drewN ?_ _ | refine blk_drew ?_ | refine blk_alloc ?_ _)); refine blk_far ?_ NB131_132.out _; (with_reducible repeat (first | refine blk_drewN ?_ _ | refine blk_drew ?_ | refine blk_alloc ?_ _)); refine blk_far ?_ NB131_132.out _; (with_reducible repeat (first | refine blk_drewN ?_ _ | refine blk_drew ?_ | refine blk_alloc ?_ _)); exact BK131.out) hb); replace BK132 := Aside0.mk (blk_below (g := gb132) (o := .cells #[.int .i64 a0_0, .int .i64 a0_1, .slice none 0 0] 35 (0, 0)) (by (with_reducible repeat (first | refine blk_drewN ?_ _ | refine blk_drew ?_ | refine blk_alloc ?_ _)); refine blk_put (cs := #[.int .i64 a0_0, .int .i64 0, .slice none 0 0]) ?_ 1 _ rfl; (with_reducible repeat (first | refine blk_drewN ?_ _ | refine blk_drew ?_ | refine blk_alloc ?_ _)); refine blk_put (cs := #[.int .i64 0, .int .i64 0, .slice none 0 0]) ?_ 0 _ rfl; (with_reducible repeat (first | refine blk_drewN ?_ _ | refine blk_drew ?_ | refine blk_alloc ?_ _)); exact BK132.out) hb); replace HB := Aside0.mk (below_step Xi hb); clear hb; (try clear ho0); obtain ⟨Ao12, co12, eo12⟩ := Kd.S_slice HO135.out; subst eo12; obtain ⟨hcz13_0, hcz13_1, hcz13_2⟩ := Xc3 BK132; obtain ⟨hfz13_0, hfz13_1, hfz13_2⟩ := Xf3 BK132; obtain ⟨hcz14_0, hcz14_1, hcz14_2⟩ := Xc3 BK131; obtain ⟨hfz14_0, hfz14_1, hfz14_2⟩ := Xf3 BK131) | ((with_reducible refine gate_store (t := 35) (p := 2) rfl ?_); refine store_event (t := 35) (p := 2) (v := ?vo_w15) (w1 := ((((w11.setCell ⟨gb132, 2, none⟩ (.slice Ao12 t133.length co12)).setCell ⟨gb131, 0, none⟩ (.int .i64 a0_0)).setCell ⟨gb131, 1, none⟩ (.int .i64 a0_1)).setCell ⟨gb131, 2, none⟩ (.slice Ao12 t133.length co12))) ?hg ?ho ?hn ?hr ?_; (case ho => rfl); (case hg => rfl); (case hn => rfl); (case hr => first | (go_simp; done) | (go_simp; rfl)); intro w15 hw; have n0_ : Aside0 (Kd.S k113 113 w15 w.heap.size (fun _ => True) (.slice Ao12 t133.length co12) t133) := ⟨(by rw [hw]; exact (by (with_reducible repeat (first | apply Kd.S_alloc | apply Kd.S_drewN | apply Kd.S_drew)); exact Kd.S_mono (Kd.S_far (p := ⟨gb131, 2, none⟩) (Kd.S_far (p := ⟨gb131, 1, none⟩) (Kd.S_far (p := ⟨gb131, 0, none⟩) (Kd.S_far (p := ⟨gb132, 2, none⟩) (Kd.S_types (Kd.S_types HO135.out BK132.out (by decide)) BK131.out (by decide)) (fun _ hk => hk.1.2) (.slice Ao12 t133.length co12)) (fun _ hk => hk.2) (.int .i64 a0_0)) (fun _ hk => hk.2) (.int .i64 a0_1)) (fun _ hk => hk.2) (.slice Ao12 t133.length co12)) (fun _ hk => trivial)))⟩; have n1_ : Aside0 (w15.heap[gb130]? = some (.cells #[.int .i64 a0_0, .int .i64 a0_1, .slice A0_2 l0_2.length c0_2] 24 (0, 0))) := ⟨(by rw [hw]; exact (by (with_reducible repeat (first | refine blk_drewN ?_ _ | refine blk_drew ?_ | refine blk_alloc ?_ _)); refine blk_far ?_ NB130_131.out _; (with_reducible repeat (first | refine blk_drewN ?_ _ | refine blk_drew ?_ | refine blk_alloc ?_ _)); refine blk_far ?_ NB130_131.out _; (with_reducible repeat (first | refine blk_drewN ?_ _ | refine blk_drew ?_ | refine blk_alloc ?_ _)); refine blk_far ?_ NB130_131.out _; (with_reducible repeat (first | refine blk_drewN ?_ _ | refine blk_drew ?_ | refine blk_alloc ?_ _)); refine blk_far ?_ NB130_132.out _; (with_reducible repeat (first | refine blk_drewN ?_ _ | refine blk_drew ?_ | refine blk_alloc ?_ _)); exact BK130.out))⟩; have n2_ : Aside0 (w15.heap[gb131]? = some (.cells #[.int .i64 a0_0, .int .i64 a0_1, .slice Ao12 t133.length co12] 35 (0, 0))) := ⟨(by rw [hw]; exact (by (with_reducible repeat (first | refine blk_drewN ?_ _ | refine blk_drew ?_ | refine blk_alloc ?_ _)); refine blk_put (cs := #[.int .i64 a0_0, .int .i64 a0_1, .slice none 0 0]) ?_ 2 _ rfl; (with_reducible repeat (first | refine blk_drewN ?_ _ | refine blk_drew ?_ | refine blk_alloc ?_ _)); refine blk_put (cs := #[.int .i64 a0_0, .int .i64 0, .slice none 0 0]) ?_ 1 _ rfl; (with_reducible repeat (first | refine blk_drewN ?_ _ | refine blk_drew ?_ | refine blk_alloc ?_ _)); refine blk_put (cs := #[.int .i64 0, .int .i64 0, .slice none 0 0]) ?_ 0 _ rfl; (with_reducible repeat (first | refine blk_drewN ?_ _ | refine blk_drew ?_ | refine blk_alloc ?_ _)); refine blk_far ?_ NB131_132.out _; (with_reducible repeat (first | refine blk_drewN ?_ _ | refine blk_drew ?_ | refine blk_alloc ?_ _)); exact BK131.out))⟩; have n3_ : Aside0 (w15.heap[gb132]? = some (.cells #[.int .i64 a0_0, .int .i64 a0_1, .slice Ao12 t133.length co12] 35 (0, 0))) := ⟨(by rw [hw]; exact (by (with_reducible repeat (first | refine blk_drewN ?_ _ | refine blk_drew ?_ | refine blk_alloc ?_ _)); refine blk_far ?_ NB132_131.out _; (with_reducible repeat (first | refine blk_drewN ?_ _ | refine blk_drew ?_ | refine blk_alloc ?_ _)); refine blk_far ?_ NB132_131.out _; (with_reducible repeat (first | refine blk_drewN ?_ _ | refine blk_drew ?_ | refine blk_alloc ?_ _)); refine blk_far ?_ NB132_131.out _; (with_reducible repeat (first | refine blk_drewN ?_ _ | refine blk_drew ?_ | refine blk_alloc ?_ _)); refine blk_put (cs := #[.int .i64 a0_0, .int .i64 a0_1, .slice none 0 0]) ?_ 2 _ rfl; (with_reducible repeat (first | refine blk_drewN ?_ _ | refine blk_drew ?_ | refine blk_alloc ?_ _)); exact BK132.out))⟩; have n4_ : Aside0 (Below w.heap.size w w15) := ⟨(by rw [hw]; exact Xi)⟩; clear hw; clear HO135; clear BK130; clear BK131; clear BK132; clear HB; have HO135 := n0_; have BK130 := n1_; have BK131 := n2_; have BK132 := n3_; have HB := n4_; clear n0_ n1_ n2_ n3_ n4_))
 refine bodyPost_ret (results_cell_row rfl _ _ gb131 35 #[.int .i64 a0_0, .int .i64 a0_1, .slice Ao12 t133.length co12] (0, 0) _ rfl BK131.out Tryz.underlying35 rfl (by kernel_rfl)) rfl ?_
 exact ⟨_, Xe, Xq HO135, Xi⟩
def laws_eqIntS.l0 : Nat → List Int → List Int → Int → Option (Bool)
 | 0, _, _, _ => none
 | k + 1, x0, x1, x5 => if x5 < (x0.length : Int) then (if 0 ≤ x5 then (if x5 < (x1.length : Int) then (if (rd x0 x5) = (rd x1 x5) then (laws_eqIntS.l0 k x0 x1 (wrap64 (x5 + 1))) else (some false)) else (none)) else (none)) else (some true)
def laws_eqIntS.f (k : Nat) (l0 : List Int) (l1 : List Int) : Option (Bool) := if (l0.length : Int) = (l1.length : Int) then (laws_eqIntS.l0 k l0 l1 0) else (some false)
theorem laws_eqIntS.calls (k : Nat) (A0 : Option Addr) (c0 : Nat) (l0 : List Int) (A1 : Option Addr) (c1 : Nat) (l1 : List Int) (r : Bool) (w : World) (hr0 : Kd.C (Kd.int .i64) w A0 l0.length l0) (hc0 : l0.length ≤ c0) (hr1 : Kd.C (Kd.int .i64) w A1 l1.length l1) (hc1 : l1.length ≤ c1) (h : laws_eqIntS.f k l0 l1 = some r) :
  Calls Tryz.prog 14 #[.slice A0 l0.length c0, .slice A1 l1.length c1] w fun e w' => e = .returned (.bool r) ∧ Drawn0 w w' := by
 have HR0 := Aside0.mk hr0
 have HC0 := Aside0.mk hc0
 clear hr0 hc0
 have HR1 := Aside0.mk hr1
 have HC1 := Aside0.mk hc1
 clear hr1 hc1
 have H : (if (l0.length : Int) = (l1.length : Int) then (laws_eqIntS.l0 k l0 l1 0) else (some false)) = some r := h
 clear h
 obtain ⟨c3, H⟩ | ⟨c3, H⟩ := Xiu H
 ·have c3b0 : ((l0.length : Int) == (l1.length : Int)) = true := beq_iff_eq.mpr c3
  have c3b1 : ((l0.length : Int) != (l1.length : Int)) = false := bne_eq_false_iff_eq.mpr c3
  have c3b2 : (l0.length == l1.length) = true := by first | simpa using c3 | (simp at c3 ⊢; omega)
  clear c3
  have H' := Aside0.mk H
  clear H
  go_enter Tryz.func14, Tryz.ntmps14
  go_wp2
  repeat (go_quiet (fail); try go_wp2)
  go_loopg [5] k (fun kq v5 w' => ∃ (x5_1 : Int), v5 = .int .i64 x5_1 ∧ Aside0 (laws_eqIntS.l0 kq l0 l1 x5_1 = some r) ∧ Aside0 (kq ≤ k) ∧ Drawn0 w w')
  case atStart => exact ⟨(0), Xr, H', Xkr, by repeat (first | exact Drawn0.refl _ | apply Drawn0.step)⟩
  clear H'
  (try clear c1); (try clear c3); (try clear c3b0); (try clear c3b1); (try clear c3b2)
  obtain ⟨x5_1, rfl, HA, HK1, ⟨m1, rfl⟩⟩ := hrel
  cases gk with | zero => cases HA.out | succ k1 => ?_
  have H := HA.out
  clear HA
  simp only [laws_eqIntS.l0] at H
  obtain ⟨c4b0, H⟩ | ⟨c4b0, H⟩ := Xit H
  ·obtain ⟨c5b0, H⟩ := Xid H
   obtain ⟨c6b0, H⟩ := Xid H
   obtain ⟨c7, H⟩ | ⟨c7, H⟩ := Xiu H
   ·have c7b0 : ((rd l0 x5_1) == (rd l1 x5_1)) = true := beq_iff_eq.mpr c7
    have c7b1 : ((rd l0 x5_1) != (rd l1 x5_1)) = false := bne_eq_false_iff_eq.mpr c7
    clear c7
    have H' := Aside0.mk H
    clear H
    have p136 : 0 ≤ (x5_1 : Int) := of_decide_eq_true Xa
    have q136 : x5_1 < (l0.length : Int) := of_decide_eq_true Xa
    obtain ⟨ad136, e136, hx136_0⟩ := Kd.at_int HR0.out x5_1 p136 q136
    cases e136
    replace p136 := eq_true p136
    replace q136 := eq_true q136
    have p137 : 0 ≤ (x5_1 : Int) := of_decide_eq_true Xa
    have q137 : x5_1 < (l1.length : Int) := of_decide_eq_true Xa
    obtain ⟨ad137, e137, hx137_0⟩ := Kd.at_int HR1.out x5_1 p137 q137
    cases e137
    replace p137 := eq_true p137
    replace q137 := eq_true q137
    go_wp2
    repeat (go_quiet (fail); try go_wp2)
    go_roundg k1
    case measure => have := HK1.out; omega
    case rel => exact ⟨(wrap64 (x5_1 + 1)), Xr, H', Xk1, by repeat (first | exact Drawn0.refl _ | apply Drawn0.step)⟩
   have c7b0 : ((rd l0 x5_1) == (rd l1 x5_1)) = false := beq_eq_false_iff_ne.mpr c7
   have c7b1 : ((rd l0 x5_1) != (rd l1 x5_1)) = true := bne_iff_ne.mpr c7
   obtain rfl := Option.some.inj H
   have p136 : 0 ≤ (x5_1 : Int) := of_decide_eq_true Xa
   have q136 : x5_1 < (l0.length : Int) := of_decide_eq_true Xa
   obtain ⟨ad136, e136, hx136_0⟩ := Kd.at_int HR0.out x5_1 p136 q136
   cases e136
   replace p136 := eq_true p136
   replace q136 := eq_true q136
   have p137 : 0 ≤ (x5_1 : Int) := of_decide_eq_true Xa
   have q137 : x5_1 < (l1.length : Int) := of_decide_eq_true Xa
   obtain ⟨ad137, e137, hx137_0⟩ := Kd.at_int HR1.out x5_1 p137 q137
   cases e137
   replace p137 := eq_true p137
   replace q137 := eq_true q137
   go_wp2
   repeat (go_quiet (fail); try go_wp2)
   go_ret
   exact ⟨Xr, Xdr⟩
  obtain rfl := Option.some.inj H
  go_wp2
  repeat (go_quiet (fail); try go_wp2)
  go_ret
  exact ⟨Xr, Xdr⟩
 have c3b0 : ((l0.length : Int) == (l1.length : Int)) = false := beq_eq_false_iff_ne.mpr c3
 have c3b1 : ((l0.length : Int) != (l1.length : Int)) = true := bne_iff_ne.mpr c3
 have c3b2 : (l0.length == l1.length) = false := by first | simpa using c3 | (simp at c3 ⊢; omega)
 obtain rfl := Option.some.inj H
 go_enter Tryz.func14, Tryz.ntmps14
 go_wp2
 repeat (go_quiet (fail); try go_wp2)
 go_ret
 exact ⟨Xr, Xdr⟩
def laws_eqNode.f (k : Nat) (a0_0 : Int) (a0_1 : Int) (a0_2 : Int) (a0_3 : ByteArray) (l0_4 : List Int) (a1_0 : Int) (a1_1 : Int) (a1_2 : Int) (a1_3 : ByteArray) (l1_4 : List Int) : Option (Bool) := if a0_0 = a1_0 then (if a0_1 = a1_1 then (if a0_2 = a1_2 then (if a0_3.toList = a1_3.toList then ((laws_eqIntS.f k l0_4 l1_4).bind fun t140 => (if t140 = true then (some true) else (some false))) else (some false)) else (some false)) else (some false)) else (some false)
theorem laws_eqNode.calls (k : Nat) (a0_0 : Int) (a0_1 : Int) (a0_2 : Int) (a0_3 : ByteArray) (A0_4 : Option Addr) (c0_4 : Nat) (l0_4 : List Int) (a1_0 : Int) (a1_1 : Int) (a1_2 : Int) (a1_3 : ByteArray) (A1_4 : Option Addr) (c1_4 : Nat) (l1_4 : List Int) (r : Bool) (w : World) (hr0_4 : Kd.C (Kd.int .i64) w A0_4 l0_4.length l0_4) (hc0_4 : l0_4.length ≤ c0_4) (hr1_4 : Kd.C (Kd.int .i64) w A1_4 l1_4.length l1_4) (hc1_4 : l1_4.length ≤ c1_4) (h : laws_eqNode.f k a0_0 a0_1 a0_2 a0_3 l0_4 a1_0 a1_1 a1_2 a1_3 l1_4 = some r) :
  Calls Tryz.prog 100 #[.agg #[.int .i64 a0_0, .int .i64 a0_1, .int .i64 a0_2, .string a0_3, .slice A0_4 l0_4.length c0_4], .agg #[.int .i64 a1_0, .int .i64 a1_1, .int .i64 a1_2, .string a1_3, .slice A1_4 l1_4.length c1_4]] w fun e w' => e = .returned (.bool r) ∧ Below w.heap.size w w' := by
 have hu113 := Tryz.underlying113
 have HR0_4 := Aside0.mk hr0_4
 have HC0_4 := Aside0.mk hc0_4
 clear hr0_4 hc0_4
 have HR1_4 := Aside0.mk hr1_4
 have HC1_4 := Aside0.mk hc1_4
 clear hr1_4 hc1_4
 have HB := Aside0.mk (Below.refl w.heap.size w)
 have H : (if a0_0 = a1_0 then (if a0_1 = a1_1 then (if a0_2 = a1_2 then (if a0_3.toList = a1_3.toList then ((laws_eqIntS.f k l0_4 l1_4).bind fun t140 => (if t140 = true then (some true) else (some false))) else (some false)) else (some false)) else (some false)) else (some false)) = some r := h
 clear h
 have HC3 := Aside0.mk H
 clear H
 go_enter Tryz.func100, Tryz.ntmps100
 go_upto_if 9 with (first | ((with_reducible refine gate_dst (N := 2) rfl ?_); refine Xbox 2 #[.int .i64 a0_0, .int .i64 a0_1, .int .i64 a0_2, .string a0_3, .slice A0_4 l0_4.length c0_4] 113 ?_; intro gb138 hg w4 hbox hb; have BK138 := Aside0.mk (hbox); have GE138 := Xge hg Xi; replace HB := Aside0.mk (below_step Xi hb); clear hb hbox hg) | ((with_reducible refine gate_dst (N := 3) rfl ?_); refine Xbox 3 #[.int .i64 a1_0, .int .i64 a1_1, .int .i64 a1_2, .string a1_3, .slice A1_4 l1_4.length c1_4] 113 ?_; intro gb139 hg w5 hbox hb; have BK139 := Aside0.mk (hbox); have GE139 := Xge hg Xi; replace HB := Aside0.mk (below_step Xi hb); have NB138_139 := Xnb hg BK138; have NB139_138 := Xns NB138_139; replace BK138 := Xbb BK138 hb; clear hb hbox hg; have hnb6 := NB138_139.out; have hnc6 := NB139_138.out; obtain ⟨hcz7_0, hcz7_1, hcz7_2, hcz7_3, hcz7_4⟩ := Xc5 BK138; obtain ⟨hcz8_0, hcz8_1, hcz8_2, hcz8_3, hcz8_4⟩ := Xc5 BK139))
 have H := HC3.out
 clear HC3
 obtain ⟨c9, H⟩ | ⟨c9, H⟩ := Xiu H
 ·have c9b0 : (a0_0 == a1_0) = true := beq_iff_eq.mpr c9
  have c9b1 : (a0_0 != a1_0) = false := bne_eq_false_iff_eq.mpr c9
  clear c9
  (first | rw [c9b0] | (simp only [i64_w, i32_w]; rw [c9b0]) | skip)
  obtain ⟨c10, H⟩ | ⟨c10, H⟩ := Xiu H
  ·have c10b0 : (a0_1 == a1_1) = true := beq_iff_eq.mpr c10
   have c10b1 : (a0_1 != a1_1) = false := bne_eq_false_iff_eq.mpr c10
   clear c10
   obtain ⟨c11, H⟩ | ⟨c11, H⟩ := Xiu H
   ·have c11b0 : (a0_2 == a1_2) = true := beq_iff_eq.mpr c11
    have c11b1 : (a0_2 != a1_2) = false := bne_eq_false_iff_eq.mpr c11
    clear c11
    obtain ⟨c12, H⟩ | ⟨c12, H⟩ := Xiu H
    ·have c12b0 : (a0_3.toList == a1_3.toList) = true := beq_iff_eq.mpr c12
     have c12b1 : (a0_3.toList != a1_3.toList) = false := bne_eq_false_iff_eq.mpr c12
     clear c12
     obtain ⟨t140, A13, H⟩ := Xbi H
     try dsimp only at H
     have HC14 := Aside0.mk H
     clear H
     have hnb15 := NB138_139.out
     have hnc15 := NB139_138.out
     obtain ⟨hcz16_0, hcz16_1, hcz16_2, hcz16_3, hcz16_4⟩ := Xc5 BK138
     obtain ⟨hcz17_0, hcz17_1, hcz17_2, hcz17_3, hcz17_4⟩ := Xc5 BK139
     go_upto_if 30 with (first | ((with_reducible refine gate_callee (f := 14) rfl ?_); refine Xgo 29 Tryz.func14 #[.slice A0_4 l0_4.length c0_4, .slice A1_4 l1_4.length c1_4] ?_; (with_reducible refine (laws_eqIntS.calls k _ _ l0_4 _ _ l1_4 t140 _ ?side1 ?side2 ?side3 ?side4 A13.out).mono ?_); (case side1 => exact Xc HR0_4); (case side2 => exact HC0_4.out); (case side3 => exact Xc HR1_4); (case side4 => exact HC1_4.out); rintro e w' ⟨rfl, ⟨nd, rfl⟩⟩; refine ⟨_, rfl, ?_⟩))
     have H := HC14.out
     clear HC14
     by_cases c18 : t140 = true
     ·subst c18
      try rw [if_pos rfl] at H
      obtain rfl := Option.some.inj H
      go_wp2
      go_ret
      exact ⟨Xe, Xi⟩
     replace c18 := Bool.eq_false_iff.mpr c18
     subst c18
     try rw [if_neg (show ¬ (false = true) by decide)] at H
     obtain rfl := Option.some.inj H
     go_wp2
     go_ret
     exact ⟨Xe, Xi⟩
    have c12b0 : (a0_3.toList == a1_3.toList) = false := beq_eq_false_iff_ne.mpr c12
    have c12b1 : (a0_3.toList != a1_3.toList) = true := bne_iff_ne.mpr c12
    obtain rfl := Option.some.inj H
    have hnb19 := NB138_139.out
    have hnc19 := NB139_138.out
    obtain ⟨hcz20_0, hcz20_1, hcz20_2, hcz20_3, hcz20_4⟩ := Xc5 BK138
    obtain ⟨hcz21_0, hcz21_1, hcz21_2, hcz21_3, hcz21_4⟩ := Xc5 BK139
    go_wp2
    go_ret
    exact ⟨Xe, Xi⟩
   have c11b0 : (a0_2 == a1_2) = false := beq_eq_false_iff_ne.mpr c11
   have c11b1 : (a0_2 != a1_2) = true := bne_iff_ne.mpr c11
   obtain rfl := Option.some.inj H
   have hnb22 := NB138_139.out
   have hnc22 := NB139_138.out
   obtain ⟨hcz23_0, hcz23_1, hcz23_2, hcz23_3, hcz23_4⟩ := Xc5 BK138
   obtain ⟨hcz24_0, hcz24_1, hcz24_2, hcz24_3, hcz24_4⟩ := Xc5 BK139
   go_wp2
   go_ret
   exact ⟨Xe, Xi⟩
  have c10b0 : (a0_1 == a1_1) = false := beq_eq_false_iff_ne.mpr c10
  have c10b1 : (a0_1 != a1_1) = true := bne_iff_ne.mpr c10
  obtain rfl := Option.some.inj H
  have hnb25 := NB138_139.out
  have hnc25 := NB139_138.out
  obtain ⟨hcz26_0, hcz26_1, hcz26_2, hcz26_3, hcz26_4⟩ := Xc5 BK138
  obtain ⟨hcz27_0, hcz27_1, hcz27_2, hcz27_3, hcz27_4⟩ := Xc5 BK139
  go_wp2
  go_ret
  exact ⟨Xe, Xi⟩
 have c9b0 : (a0_0 == a1_0) = false := beq_eq_false_iff_ne.mpr c9
 have c9b1 : (a0_0 != a1_0) = true := bne_iff_ne.mpr c9
 (first | rw [c9b0] | (simp only [i64_w, i32_w]; rw [c9b0]) | skip)
 obtain rfl := Option.some.inj H
 go_wp2
 go_ret
 exact ⟨Xe, Xi⟩
def laws_eqNodeS.l0 : Nat → List (S113) → List (S113) → Int → Option (Bool)
 | 0, _, _, _ => none
 | k + 1, x0, x1, x5 => if x5 < (x0.length : Int) then (if 0 ≤ x5 then (if x5 < (x1.length : Int) then ((laws_eqNode.f k ((rd_T113 x0 x5).f0) ((rd_T113 x0 x5).f1) ((rd_T113 x0 x5).f2) ((rd_T113 x0 x5).f3) ((rd_T113 x0 x5).f4) ((rd_T113 x1 x5).f0) ((rd_T113 x1 x5).f1) ((rd_T113 x1 x5).f2) ((rd_T113 x1 x5).f3) ((rd_T113 x1 x5).f4)).bind fun t143 => (if t143 = true then (laws_eqNodeS.l0 k x0 x1 (wrap64 (x5 + 1))) else (some false))) else (none)) else (none)) else (some true)
def laws_eqNodeS.f (k : Nat) (l0 : List (S113)) (l1 : List (S113)) : Option (Bool) := if (l0.length : Int) = (l1.length : Int) then (laws_eqNodeS.l0 k l0 l1 0) else (some false)
def laws_eqNodeS.T6 : Bool × List (List Nat × List Nat) := (true, [([], []), ([], []), ([0, 1], [0, 1]), ([2], [2]), ([], []), ([], []), ([4, 5], [4, 5]), ([6], [6]), ([3, 7], [3, 7]), ([8], [8])])
def laws_eqNodeS.B6 : List Nat := [0, 0, 3, 7, 0, 0, 48, 112, 255, 511]
theorem laws_eqNodeS.tab6 : rtab .any (opsOf Tryz.f51 6) = laws_eqNodeS.T6 := by kernel_rfl
theorem laws_eqNodeS.bits6 : waitsOk laws_eqNodeS.T6.2 laws_eqNodeS.B6 = true := by kernel_rfl
theorem laws_eqNodeS.calls (k : Nat) (A0 : Option Addr) (c0 : Nat) (l0 : List (S113)) (A1 : Option Addr) (c1 : Nat) (l1 : List (S113)) (r : Bool) (w : World) (hr0 : Kd.C k113 w A0 l0.length l0) (hc0 : l0.length ≤ c0) (hr1 : Kd.C k113 w A1 l1.length l1) (hc1 : l1.length ≤ c1) (h : laws_eqNodeS.f k l0 l1 = some r) :
  Calls Tryz.prog 51 #[.slice A0 l0.length c0, .slice A1 l1.length c1] w fun e w' => e = .returned (.bool r) ∧ Below w.heap.size w w' := by
 have hu113 := Tryz.underlying113
 have HR0 := Aside0.mk hr0
 have HC0 := Aside0.mk hc0
 clear hr0 hc0
 have HR1 := Aside0.mk hr1
 have HC1 := Aside0.mk hc1
 clear hr1 hc1
 have HB := Aside0.mk (Below.refl w.heap.size w)
 have H : (if (l0.length : Int) = (l1.length : Int) then (laws_eqNodeS.l0 k l0 l1 0) else (some false)) = some r := h
 clear h
 obtain ⟨c3, H⟩ | ⟨c3, H⟩ := Xiu H
 ·have c3b0 : ((l0.length : Int) == (l1.length : Int)) = true := beq_iff_eq.mpr c3
  have c3b1 : ((l0.length : Int) != (l1.length : Int)) = false := bne_eq_false_iff_eq.mpr c3
  have c3b2 : (l0.length == l1.length) = true := by first | simpa using c3 | (simp at c3 ⊢; omega)
  clear c3
  have H' := Aside0.mk H
  clear H
  go_enter Tryz.func51, Tryz.ntmps51
  go_wp2
  go_loopg [5] k (fun kq v5 w' => ∃ (x5_1 : Int), v5 = .int .i64 x5_1 ∧ Aside0 (laws_eqNodeS.l0 kq l0 l1 x5_1 = some r) ∧ Aside0 (kq ≤ k) ∧ Aside0 (Below w.heap.size w w'))
  case atStart => exact ⟨(0), Xr, H', Xkr, ⟨Xi⟩⟩
  clear H'
  (try clear c1); (try clear c3); (try clear c3b0); (try clear c3b1); (try clear c3b2)
  obtain ⟨x5_1, rfl, HA, HK1, HB⟩ := hrel
  cases gk with | zero => cases HA.out | succ k1 => ?_
  have H := HA.out
  clear HA
  simp only [laws_eqNodeS.l0] at H
  obtain ⟨c4b0, H⟩ | ⟨c4b0, H⟩ := Xit H
  ·obtain ⟨c5b0, H⟩ := Xid H
   obtain ⟨c6b0, H⟩ := Xid H
   obtain ⟨t143, A7, H⟩ := Xbi H
   try dsimp only at H
   have HC8 := Aside0.mk H
   clear H
   try go_wp2_with (fail)
   replace HB := Aside0.mk (below_drew1 HB.out)
   have p141 : 0 ≤ (x5_1 : Int) := of_decide_eq_true Xa
   have q141 : x5_1 < (l0.length : Int) := of_decide_eq_true Xa
   obtain ⟨ad141, A141_4, c141_4, e141, hx141_0, hx141_1, hx141_2, hx141_3, hx141_4, hl141_4, hi141_4⟩ := at_T113 HR0.out x5_1 p141 q141
   have hw141_4 := hx141_4
   have hw141_3 := hx141_3
   have hw141_2 := hx141_2
   have hw141_1 := hx141_1
   have hw141_0 := hx141_0
   cases e141
   replace hx141_0 := Xm HB hx141_0
   replace hx141_1 := Xm HB hx141_1
   replace hx141_2 := Xm HB hx141_2
   replace hx141_3 := Xm HB hx141_3
   replace hx141_4 := Xm HB hx141_4
   have HR141_4 := Aside0.mk hi141_4
   have HC141_4 := Aside0.mk hl141_4
   clear hi141_4 hl141_4
   replace p141 := eq_true p141
   replace q141 := eq_true q141
   have p142 : 0 ≤ (x5_1 : Int) := of_decide_eq_true Xa
   have q142 : x5_1 < (l1.length : Int) := of_decide_eq_true Xa
   obtain ⟨ad142, A142_4, c142_4, e142, hx142_0, hx142_1, hx142_2, hx142_3, hx142_4, hl142_4, hi142_4⟩ := at_T113 HR1.out x5_1 p142 q142
   have hw142_4 := hx142_4
   have hw142_3 := hx142_3
   have hw142_2 := hx142_2
   have hw142_1 := hx142_1
   have hw142_0 := hx142_0
   cases e142
   replace hx142_0 := Xm HB hx142_0
   replace hx142_1 := Xm HB hx142_1
   replace hx142_2 := Xm HB hx142_2
   replace hx142_3 := Xm HB hx142_3
   replace hx142_4 := Xm HB hx142_4
   have HR142_4 := Aside0.mk hi142_4
   have HC142_4 := Aside0.mk hl142_4
   clear hi142_4 hl142_4
   replace p142 := eq_true p142
   replace q142 := eq_true q142
   refine start_ (n := 10) (S := fun w' => w'.cell? (ad141.add ((x5_1).toNat * 5)) = some (.int .i64 ((rd_T113 l0 x5_1).f0)) ∧ w'.cell? ⟨(ad141.add ((x5_1).toNat * 5)).block, (ad141.add ((x5_1).toNat * 5)).off + 1, none⟩ = some (.int .i64 ((rd_T113 l0 x5_1).f1)) ∧ w'.cell? ⟨(ad141.add ((x5_1).toNat * 5)).block, (ad141.add ((x5_1).toNat * 5)).off + 2, none⟩ = some (.int .i64 ((rd_T113 l0 x5_1).f2)) ∧ w'.cell? ⟨(ad141.add ((x5_1).toNat * 5)).block, (ad141.add ((x5_1).toNat * 5)).off + 3, none⟩ = some (.string ((rd_T113 l0 x5_1).f3)) ∧ w'.cell? ⟨(ad141.add ((x5_1).toNat * 5)).block, (ad141.add ((x5_1).toNat * 5)).off + 4, none⟩ = some (.slice A141_4 ((rd_T113 l0 x5_1).f4).length c141_4) ∧ w'.cell? (ad142.add ((x5_1).toNat * 5)) = some (.int .i64 ((rd_T113 l1 x5_1).f0)) ∧ w'.cell? ⟨(ad142.add ((x5_1).toNat * 5)).block, (ad142.add ((x5_1).toNat * 5)).off + 1, none⟩ = some (.int .i64 ((rd_T113 l1 x5_1).f1)) ∧ w'.cell? ⟨(ad142.add ((x5_1).toNat * 5)).block, (ad142.add ((x5_1).toNat * 5)).off + 2, none⟩ = some (.int .i64 ((rd_T113 l1 x5_1).f2)) ∧ w'.cell? ⟨(ad142.add ((x5_1).toNat * 5)).block, (ad142.add ((x5_1).toNat * 5)).off + 3, none⟩ = some (.string ((rd_T113 l1 x5_1).f3)) ∧ w'.cell? ⟨(ad142.add ((x5_1).toNat * 5)).block, (ad142.add ((x5_1).toNat * 5)).off + 4, none⟩ = some (.slice A142_4 ((rd_T113 l1 x5_1).f4).length c142_4)) (ds := []) #[false, false, false, false, false, false, false, false, false, false] (by kernel_rfl) rfl rfl ⟨Xn hw141_0, Xn hw141_1, Xn hw141_2, Xn hw141_3, Xn hw141_4, Xn hw142_0, Xn hw142_1, Xn hw142_2, Xn hw142_3, Xn hw142_4⟩ (fun hHeld => ?_); refine with_tabW laws_eqNodeS.tab6 laws_eqNodeS.bits6 (fun HT_ HW_ => ?_)
   generalize wr.drew = w9 at HB HR141_4 HR142_4 hx141_0 hx141_1 hx141_2 hx141_3 hx141_4 hx142_0 hx142_1 hx142_2 hx142_3 hx142_4 hHeld ⊢
   refine Xpu 0 17 (XW.bs 10 1) HT_.out ?_
   refine Xpu 1 18 (XW.bs 10 3) HT_.out ?_
   refine Xpu 2 19 (XW.bs 10 7) HT_.out ?_
   refine Xpu 4 21 (XW.bs 10 23) HT_.out ?_
   refine Xpu 5 22 (XW.bs 10 55) HT_.out ?_
   refine Xpu 6 23 (XW.bs 10 119) HT_.out ?_
   refine Xta 3 20 (XW.bs 10 127) HT_.out HW_.out hHeld ?_
   refine Xta 7 24 (XW.bs 10 255) HT_.out HW_.out hHeld ?_
   refine one_ (i := 8) (N := some 25) (XW.bs 10 511) rfl rfl (one_of HT_.out (by kernel_rfl)) (by decide) (fun K hK => ?_)
   refine goes_ Tryz.func100 (by kernel_rfl) rfl #[.agg #[.int .i64 ((rd_T113 l0 x5_1).f0), .int .i64 ((rd_T113 l0 x5_1).f1), .int .i64 ((rd_T113 l0 x5_1).f2), .string ((rd_T113 l0 x5_1).f3), .slice A141_4 ((rd_T113 l0 x5_1).f4).length c141_4], .agg #[.int .i64 ((rd_T113 l1 x5_1).f0), .int .i64 ((rd_T113 l1 x5_1).f1), .int .i64 ((rd_T113 l1 x5_1).f2), .string ((rd_T113 l1 x5_1).f3), .slice A142_4 ((rd_T113 l1 x5_1).f4).length c142_4]] (by rfl) rfl rfl (by (try simp only [List.map_toArray, List.map_cons, List.map_nil]); first | done | rfl | (simp only [List.length_drop, List.length_take]; rfl)) ?_
   with_reducible refine (laws_eqNode.calls k1 ((rd_T113 l0 x5_1).f0) ((rd_T113 l0 x5_1).f1) ((rd_T113 l0 x5_1).f2) ((rd_T113 l0 x5_1).f3) _ _ ((rd_T113 l0 x5_1).f4) ((rd_T113 l1 x5_1).f0) ((rd_T113 l1 x5_1).f1) ((rd_T113 l1 x5_1).f2) ((rd_T113 l1 x5_1).f3) _ _ ((rd_T113 l1 x5_1).f4) t143 _ ?side1 ?side2 ?side3 ?side4 A7.out).mono ?_
   (case side1 => exact Xc HR141_4)
   (case side2 => exact HC141_4.out)
   (case side3 => exact Xc HR142_4)
   (case side4 => exact HC142_4.out)
   rintro e w10 ⟨rfl, hb⟩
   refine ⟨_, rfl, ?_⟩
   replace HB := Aside0.mk (below_step Xi hb)
   try clear hb
   try clear hb2
   try clear hk
   try clear hi
   refine hK.out _ _ ⟨Xn hw141_0, Xn hw141_1, Xn hw141_2, Xn hw141_3, Xn hw141_4, Xn hw142_0, Xn hw142_1, Xn hw142_2, Xn hw142_3, Xn hw142_4⟩ (fun hHeld => ?_)
   clear hK K
   refine Xno ?_
   refine Xpu 9 26 (XW.bs 10 1023) HT_.out ?_
   refine done_ (done_of HT_.out (by kernel_rfl)) ?_
   go_upto_if 26 with (fail)
   have H := HC8.out
   clear HC8
   by_cases c11 : t143 = true
   ·subst c11
    try rw [if_pos rfl] at H
    have H' := Aside0.mk H
    clear H
    go_wp2
    go_roundg k1
    case measure => have := HK1.out; omega
    case rel => exact ⟨(wrap64 (x5_1 + 1)), Xr, H', Xk1, ⟨Xi⟩⟩
   replace c11 := Bool.eq_false_iff.mpr c11
   subst c11
   try rw [if_neg (show ¬ (false = true) by decide)] at H
   obtain rfl := Option.some.inj H
   go_wp2
   go_ret
   exact ⟨Xe, Xi⟩
  obtain rfl := Option.some.inj H
  go_wp2
  go_ret
  exact ⟨Xe, Xi⟩
 have c3b0 : ((l0.length : Int) == (l1.length : Int)) = false := beq_eq_false_iff_ne.mpr c3
 have c3b1 : ((l0.length : Int) != (l1.length : Int)) = true := bne_iff_ne.mpr c3
 have c3b2 : (l0.length == l1.length) = false := by first | simpa using c3 | (simp at c3 ⊢; omega)
 obtain rfl := Option.some.inj H
 go_enter Tryz.func51, Tryz.ntmps51
 go_wp2
 go_ret
 exact ⟨Xe, Xi⟩
def laws_eqDoc.f (k : Nat) (a0_0 : Int) (a0_1 : Int) (l0_2 : List (S113)) (a1_0 : Int) (a1_1 : Int) (l1_2 : List (S113)) : Option (Bool) := if a0_0 = a1_0 then (if a0_1 = a1_1 then ((laws_eqNodeS.f k l0_2 l1_2).bind fun t146 => (if t146 = true then (some true) else (some false))) else (some false)) else (some false)
theorem laws_eqDoc.calls (k : Nat) (a0_0 : Int) (a0_1 : Int) (A0_2 : Option Addr) (c0_2 : Nat) (l0_2 : List (S113)) (a1_0 : Int) (a1_1 : Int) (A1_2 : Option Addr) (c1_2 : Nat) (l1_2 : List (S113)) (r : Bool) (w : World) (hr0_2 : Kd.C k113 w A0_2 l0_2.length l0_2) (hc0_2 : l0_2.length ≤ c0_2) (hr1_2 : Kd.C k113 w A1_2 l1_2.length l1_2) (hc1_2 : l1_2.length ≤ c1_2) (h : laws_eqDoc.f k a0_0 a0_1 l0_2 a1_0 a1_1 l1_2 = some r) :
  Calls Tryz.prog 15 #[.agg #[.int .i64 a0_0, .int .i64 a0_1, .slice A0_2 l0_2.length c0_2], .agg #[.int .i64 a1_0, .int .i64 a1_1, .slice A1_2 l1_2.length c1_2]] w fun e w' => e = .returned (.bool r) ∧ Below w.heap.size w w' := by
 have hu35 := Tryz.underlying35
 have HR0_2 := Aside0.mk hr0_2
 have HC0_2 := Aside0.mk hc0_2
 clear hr0_2 hc0_2
 have HR1_2 := Aside0.mk hr1_2
 have HC1_2 := Aside0.mk hc1_2
 clear hr1_2 hc1_2
 have HB := Aside0.mk (Below.refl w.heap.size w)
 have H : (if a0_0 = a1_0 then (if a0_1 = a1_1 then ((laws_eqNodeS.f k l0_2 l1_2).bind fun t146 => (if t146 = true then (some true) else (some false))) else (some false)) else (some false)) = some r := h
 clear h
 have HC3 := Aside0.mk H
 clear H
 go_enter Tryz.func15, Tryz.ntmps15
 go_upto_if 9 with (first | ((with_reducible refine gate_dst (N := 2) rfl ?_); refine Xbox 2 #[.int .i64 a0_0, .int .i64 a0_1, .slice A0_2 l0_2.length c0_2] 35 ?_; intro gb144 hg w4 hbox hb; have BK144 := Aside0.mk (hbox); have GE144 := Xge hg Xi; replace HB := Aside0.mk (below_step Xi hb); clear hb hbox hg) | ((with_reducible refine gate_dst (N := 3) rfl ?_); refine Xbox 3 #[.int .i64 a1_0, .int .i64 a1_1, .slice A1_2 l1_2.length c1_2] 35 ?_; intro gb145 hg w5 hbox hb; have BK145 := Aside0.mk (hbox); have GE145 := Xge hg Xi; replace HB := Aside0.mk (below_step Xi hb); have NB144_145 := Xnb hg BK144; have NB145_144 := Xns NB144_145; replace BK144 := Xbb BK144 hb; clear hb hbox hg; have hnb6 := NB144_145.out; have hnc6 := NB145_144.out; obtain ⟨hcz7_0, hcz7_1, hcz7_2⟩ := Xc3 BK144; obtain ⟨hcz8_0, hcz8_1, hcz8_2⟩ := Xc3 BK145))
 have H := HC3.out
 clear HC3
 obtain ⟨c9, H⟩ | ⟨c9, H⟩ := Xiu H
 ·have c9b0 : (a0_0 == a1_0) = true := beq_iff_eq.mpr c9
  have c9b1 : (a0_0 != a1_0) = false := bne_eq_false_iff_eq.mpr c9
  clear c9
  (first | rw [c9b0] | (simp only [i64_w, i32_w]; rw [c9b0]) | skip)
  obtain ⟨c10, H⟩ | ⟨c10, H⟩ := Xiu H
  ·have c10b0 : (a0_1 == a1_1) = true := beq_iff_eq.mpr c10
   have c10b1 : (a0_1 != a1_1) = false := bne_eq_false_iff_eq.mpr c10
   clear c10
   obtain ⟨t146, A11, H⟩ := Xbi H
   try dsimp only at H
   have HC12 := Aside0.mk H
   clear H
   have hnb13 := NB144_145.out
   have hnc13 := NB145_144.out
   obtain ⟨hcz14_0, hcz14_1, hcz14_2⟩ := Xc3 BK144
   obtain ⟨hcz15_0, hcz15_1, hcz15_2⟩ := Xc3 BK145
   go_upto_if 20 with (first | ((with_reducible refine gate_callee (f := 51) rfl ?_); refine Xgo 19 Tryz.func51 #[.slice A0_2 l0_2.length c0_2, .slice A1_2 l1_2.length c1_2] ?_; (with_reducible refine (laws_eqNodeS.calls k _ _ l0_2 _ _ l1_2 t146 _ ?side1 ?side2 ?side3 ?side4 A11.out).mono ?_); (case side1 => exact Xc HR0_2); (case side2 => exact HC0_2.out); (case side3 => exact Xc HR1_2); (case side4 => exact HC1_2.out); rintro e w16 ⟨rfl, hb⟩; refine ⟨_, rfl, ?_⟩; replace BK144 := Xbb BK144 hb; replace BK145 := Xbb BK145 hb; replace HB := Aside0.mk (below_step Xi hb); clear hb))
   have H := HC12.out
   clear HC12
   by_cases c17 : t146 = true
   ·subst c17
    try rw [if_pos rfl] at H
    obtain rfl := Option.some.inj H
    go_wp2
    go_ret
    exact ⟨Xe, Xi⟩
   replace c17 := Bool.eq_false_iff.mpr c17
   subst c17
   try rw [if_neg (show ¬ (false = true) by decide)] at H
   obtain rfl := Option.some.inj H
   go_wp2
   go_ret
   exact ⟨Xe, Xi⟩
  have c10b0 : (a0_1 == a1_1) = false := beq_eq_false_iff_ne.mpr c10
  have c10b1 : (a0_1 != a1_1) = true := bne_iff_ne.mpr c10
  obtain rfl := Option.some.inj H
  have hnb18 := NB144_145.out
  have hnc18 := NB145_144.out
  obtain ⟨hcz19_0, hcz19_1, hcz19_2⟩ := Xc3 BK144
  obtain ⟨hcz20_0, hcz20_1, hcz20_2⟩ := Xc3 BK145
  go_wp2
  go_ret
  exact ⟨Xe, Xi⟩
 have c9b0 : (a0_0 == a1_0) = false := beq_eq_false_iff_ne.mpr c9
 have c9b1 : (a0_0 != a1_0) = true := bne_iff_ne.mpr c9
 (first | rw [c9b0] | (simp only [i64_w, i32_w]; rw [c9b0]) | skip)
 obtain rfl := Option.some.inj H
 go_wp2
 go_ret
 exact ⟨Xe, Xi⟩
def laws_markIntS.l0 : Nat → List Int → Int → Int → Option (Int × List Int)
 | 0, _, _, _ => none
 | k + 1, x0, x1, x5 => if x5 < (x0.length : Int) then (if 0 ≤ x5 then (laws_markIntS.l0 k (x0.set (x5 : Int).toNat x1) (wrap64 (x1 + 1)) (wrap64 (x5 + 1))) else (none)) else (some (x1, x0))
def laws_markIntS.f (k : Nat) (l0 : List Int) (a1 : Int) : Option (Int × List Int) := laws_markIntS.l0 k l0 a1 0
theorem laws_markIntS.calls (k : Nat) (P0_ : Nat → Prop) (u9000_ : Value) (l0 : List Int) (a1 : Int) (r1 : Int) (r2 : List Int) (w0 w : World) (hB : Below w0.heap.size w0 w) (ho0 : Kd.R (Kd.int .i64) 3 w w0.heap.size P0_ u9000_ l0) (h : laws_markIntS.f k l0 a1 = some (r1, r2)) :
  Calls Tryz.prog 19 #[u9000_, .int .i64 a1] w fun e w' => e = .returned (.int .i64 r1) ∧ Kd.R (Kd.int .i64) 3 w' w0.heap.size (fun k_ => (P0_ k_ ∨ w.heap.size ≤ k_)) u9000_ r2 ∧ Below w0.heap.size w0 w' ∧ Kept w w' (fun k_ => P0_ k_) := by
 have HO0 := Aside0.mk (show Kd.R (Kd.int .i64) 3 w w0.heap.size (fun k_ => (P0_ k_ ∨ w.heap.size ≤ k_)) u9000_ l0 from Kd.R_mono ho0 (fun k_ hk => (.inl hk)))
 have HK := Aside0.mk (Kept.refl w (fun k_ => P0_ k_))
 have HW0 := Aside0.mk hB.size
 have HB := Aside0.mk hB
 clear hB
 have H : (laws_markIntS.l0 k l0 a1 0) = some (r1, r2) := h
 clear h
 have H' := Aside0.mk H
 clear H
 go_enter Tryz.func19, Tryz.ntmps19
 go_wp2
 go_loopg [1, 5] k (fun kq v1 v5 w' => ∃ (x0_1 : List Int) (x1_1 : Int) (x5_1 : Int), v1 = .int .i64 x1_1 ∧ v5 = .int .i64 x5_1 ∧ Aside0 (laws_markIntS.l0 kq x0_1 x1_1 x5_1 = some (r1, r2)) ∧ Aside0 (kq ≤ k) ∧ Aside0 (Kd.R (Kd.int .i64) 3 w' w0.heap.size (fun k_ => (P0_ k_ ∨ w.heap.size ≤ k_)) u9000_ x0_1) ∧ Aside0 (Kept w w' (fun k_ => P0_ k_)) ∧ Aside0 (Below w0.heap.size w0 w'))
 case atStart => exact ⟨(l0), (a1), (0), Xr, Xr, H', Xkr, (Xp' HO0), ⟨by repeat first | (with_reducible first | exact HK.out | apply Kept.drewN | apply Kept.drew) | exact HK.out⟩, ⟨Xi⟩⟩
 clear H'
 obtain ⟨x0_1, x1_1, x5_1, rfl, rfl, HA, HK1, HO_0, HK, HB⟩ := hrel
 cases gk with | zero => cases HA.out | succ k1 => ?_
 have H := HA.out
 clear HA
 simp only [laws_markIntS.l0] at H
 obtain ⟨c3b0, H⟩ | ⟨c3b0, H⟩ := Xit H
 ·obtain ⟨c4b0, H⟩ := Xid H
  obtain ⟨y147, hy147⟩ : ∃ y_ : List Int, y_ = (x0_1.set (x5_1 : Int).toNat x1_1) := ⟨_, rfl⟩
  replace H : (laws_markIntS.l0 k1 y147 (wrap64 (x1_1 + 1)) (wrap64 (x5_1 + 1))) = some (r1, r2) := by first | (rw [hy147]; with_reducible exact H) | (have H2_ := (Option.bind_some _ _).symm.trans H; rw [hy147]; with_reducible exact H2_) | (have H2_ := (Option.bind_some _ _).symm.trans H; with_reducible exact H2_) | with_reducible exact H | (rw [hy147]; exact H) | exact H
  have Ny147 := Aside0.mk hy147
  clear hy147
  have H' := Aside0.mk H
  clear H
  obtain ⟨Ao6, co6, eo6⟩ := Kd.R_slice HO_0.out
  subst eo6
  have p5 : 0 ≤ (x5_1 : Int) := of_decide_eq_true Xa
  have q5 : (x5_1 : Int) < ((x0_1.length : Int) : Int) := of_decide_eq_true Xa
  obtain ⟨go5, co5, eo5, gb5, gl5, cl5, HG5⟩ := Kd.R_form HO_0.out (by omega)
  (first | cases eo5 | (injection eo5 with ea_ en_ ec_; (first | subst ea_ | (injection ea_ with ea_; subst ea_)); subst ec_; clear en_))
  have GB5 := Aside0.mk gb5
  have GG5 := Aside0.mk HG5
  clear gb5 gl5 HG5
  have HMgo5 := Aside0.mk (show (P0_ go5 ∨ w.heap.size ≤ go5) from (HO_0.out.1 _ rfl))
  obtain ⟨hx5_0, hf5_0⟩ := Kd.R_celln 0 HO_0.out (x5_1 : Int) p5 q5
  replace p5 := eq_true p5
  replace q5 := eq_true q5
  have HP7 := Kd.R_putg HO_0.out (x5_1 : Int) x1_1
  go_wp2_with (first | ((with_reducible refine gate_store (t := 3) (p := 15) rfl ?_); refine store_event (t := 3) (p := 15) (v := ?vo_w8) (w1 := (wr.setCell ⟨go5, (x5_1 : Int).toNat, none⟩ (.int .i64 x1_1))) ?hg ?ho ?hn ?hr ?_; (case ho => rfl); (case hg => rfl); (case hn => rfl); (case hr => first | (go_simp; done) | (go_simp; rfl)); intro w8 hw; have hg : wr.grownBy w8 (some go5) := (by rw [hw]; exact HP7.2); have hp_ : Kd.R (Kd.int .i64) 3 w8 w0.heap.size (fun k_ => (P0_ k_ ∨ w.heap.size ≤ k_)) (.slice (some ⟨go5, 0, none⟩) x0_1.length co6) y147 := (by rw [hw, Ny147.out]; exact HP7.1); clear HP7; replace HB := Aside0.mk ((by rw [hw]; exact below_set (HB.out) GB5.out : Below w0.heap.size w0 w8)); replace HK := Aside0.mk (Kept.of_grown (S := (fun k_ => P0_ k_)) hg (by repeat first | (with_reducible first | exact HK.out | apply Kept.drewN | apply Kept.drew) | exact HK.out) (fun k_ e_ => (HO_0.out.1 k_ e_))); replace HO_0 := Aside0.mk (hp_); clear hg hw hp_))
  go_roundg k1
  case measure => have := HK1.out; omega
  case rel => exact ⟨(y147), (wrap64 (x1_1 + 1)), (wrap64 (x5_1 + 1)), Xr, Xr, H', Xk1, (Xp' HO_0), ⟨by repeat first | (with_reducible first | exact HK.out | apply Kept.drewN | apply Kept.drew) | exact HK.out⟩, ⟨Xi⟩⟩
 simp only [Option.some.injEq, Prod.mk.injEq] at H
 obtain ⟨rfl, rfl⟩ := H
 obtain ⟨Ao9, co9, eo9⟩ := Kd.R_slice HO_0.out
 subst eo9
 go_wp2
 go_ret
 exact ⟨Xe, Xq HO_0, Xi, by repeat first | (with_reducible first | exact HK.out | apply Kept.drewN | apply Kept.drew) | exact HK.out⟩
def laws_markText.l0 : Nat → Int → ByteArray → Option (ByteArray)
 | 0, _, _ => none
 | k + 1, x0, x3 => if x0 > 0 then ((some (([(wrap64 (48 + (Int.tmod x0 10))) % 256] : List Int) : List Int)).bind fun y148 => (if (strOfNums y148).size + x3.size ≤ 9223372036854775807 then (laws_markText.l0 k (wrap64 (Int.tdiv x0 10)) ((strOfNums y148) ++ x3)) else (none))) else (if 1 + x3.size ≤ 9223372036854775807 then (some ((⟨#[109]⟩ : ByteArray) ++ x3)) else (none))
def laws_markText.f (k : Nat) (a0 : Int) : Option (ByteArray) := if a0 ≤ 0 then (some (⟨#[109, 48]⟩ : ByteArray)) else (laws_markText.l0 k a0 (⟨#[]⟩ : ByteArray))
theorem laws_markText.calls (k : Nat) (a0 : Int) (r : ByteArray) (w : World) (h : laws_markText.f k a0 = some r) :
  Calls Tryz.prog 101 #[.int .i64 a0] w fun e w' => e = .returned (.string r) ∧ Below w.heap.size w w' := by
 have HB := Aside0.mk (Below.refl w.heap.size w)
 have H : (if a0 ≤ 0 then (some (⟨#[109, 48]⟩ : ByteArray)) else (laws_markText.l0 k a0 (⟨#[]⟩ : ByteArray))) = some r := h
 clear h
 obtain ⟨c2b0, H⟩ | ⟨c2b0, H⟩ := Xit H
 ·obtain rfl := Option.some.inj H
  go_enter Tryz.func101, Tryz.ntmps101
  go_wp2
  go_ret
  exact ⟨Xe, Xi⟩
 have H' := Aside0.mk H
 clear H
 go_enter Tryz.func101, Tryz.ntmps101
 go_wp2
 go_loopg [0, 3] k (fun kq v0 v3 w' => ∃ (x0_1 : Int) (x3_1 : ByteArray), v0 = .int .i64 x0_1 ∧ v3 = .string x3_1 ∧ Aside0 (laws_markText.l0 kq x0_1 x3_1 = some r) ∧ Aside0 (kq ≤ k) ∧ Aside0 (Below w.heap.size w w'))
 case atStart => exact ⟨(a0), ((⟨#[]⟩ : ByteArray)), Xr, Xr, H', Xkr, ⟨Xi⟩⟩
 clear H'
 (try clear c2); (try clear c2b0)
 obtain ⟨x0_1, x3_1, rfl, rfl, HA, HK1, HB⟩ := hrel
 cases gk with | zero => cases HA.out | succ k1 => ?_
 have H := HA.out
 clear HA
 simp only [laws_markText.l0] at H
 obtain ⟨c3, H⟩ | ⟨c3, H⟩ := Xiu H
 ·have c3b0 : decide (0 < x0_1) = true := decide_eq_true c3
  clear c3
  obtain ⟨y148, hy148⟩ : ∃ y_ : List Int, y_ = (([(wrap64 (48 + (Int.tmod x0_1 10))) % 256] : List Int)) := ⟨_, rfl⟩
  replace H : (if (strOfNums y148).size + x3_1.size ≤ 9223372036854775807 then (laws_markText.l0 k1 (wrap64 (Int.tdiv x0_1 10)) ((strOfNums y148) ++ x3_1)) else (none)) = some r := by first | (rw [hy148]; with_reducible exact H) | (have H2_ := (Option.bind_some _ _).symm.trans H; rw [hy148]; with_reducible exact H2_) | (have H2_ := (Option.bind_some _ _).symm.trans H; with_reducible exact H2_) | with_reducible exact H | (rw [hy148]; exact H) | exact H
  have Ny148 := Aside0.mk hy148
  clear hy148
  obtain ⟨c4, H⟩ := Xif H
  have c4b0 := eq_true c4
  have c4b1 : decide ((strOfNums y148).size + x3_1.size ≤ 9223372036854775807) = true := decide_eq_true c4
  try have c4b2 : (9223372036854775807 < (strOfNums y148).size + x3_1.size) = False := eq_false (Nat.not_lt.2 c4)
  have H' := Aside0.mk H
  clear H
  go_wp2_with (first | ((with_reducible refine gate_dst (N := 12) rfl ?_); refine Kd.R_lit (Kd.int .u8) _ 5 ?hg (N := 12) ?hd (xs := ([(wrap64 (48 + (Int.tmod x0_1 10))) % 256] : List Int)) (inner := [.int .u8 ((wrap64 (48 + (Int.tmod x0_1 10))) % 256)]) (ok := fun _ => True) (okp := fun _ => True) ?hr ?hp (fun _ hk => hk) trivial (Below.refl _ _) (Nat.le_refl _) (by simp) ?_; (case hd => rfl); (case hg => rfl); (case hr => first | (go_simp; done) | (go_simp; rfl)); (case hp => exact (Reps.one (show Kd.M (Kd.int .u8) _ _ _ ((wrap64 (48 + (Int.tmod x0_1 10))) % 256) [.int .u8 ((wrap64 (48 + (Int.tmod x0_1 10))) % 256)] from rfl) (Reps.none _ _))); intro v149 w5 ho6 hb hg_ hnew_; clear hg_ hnew_; (first | rw [← Ny148.out] at ho6 | (simp only [Int.reduceToNat] at ho6; rw [← Ny148.out] at ho6)); have HO150 := Aside0.mk (Kd.R_lower ho6 (below_size Xi)); replace HB := Aside0.mk (below_step Xi hb); clear hb ho6; have hcv7 := own_string (P := Tryz.prog) Tryz.underlying58 Tryz.underlying5 Tryz.underlying9 (Kd.own_of_R HO150.out)))
  go_roundg k1
  case measure => have := HK1.out; omega
  case rel => exact ⟨(wrap64 (Int.tdiv x0_1 10)), ((strOfNums y148) ++ x3_1), Xr, Xr, H', Xk1, ⟨Xi⟩⟩
 have c3b0 : decide (0 < x0_1) = false := decide_eq_false c3
 clear c3
 obtain ⟨c8, H⟩ | ⟨c8, H⟩ := Xiu H
 ·have c8b0 := eq_true c8
  have c8b1 : decide (1 + x3_1.size ≤ 9223372036854775807) = true := decide_eq_true c8
  try have c8b2 : (9223372036854775807 < 1 + x3_1.size) = False := eq_false (Nat.not_lt.2 c8)
  obtain rfl := Option.some.inj H
  go_wp2
  go_ret
  exact ⟨Xe, Xi⟩
 exact absurd H (by simp)
def laws_heldIntS.l0 : Nat → List Int → Int → Int → Option (Int)
 | 0, _, _, _ => none
 | k + 1, x0, x1, x5 => if x5 < (x0.length : Int) then (if 0 ≤ x5 then (if (rd x0 x5) = x1 then (laws_heldIntS.l0 k x0 (wrap64 (x1 + 1)) (wrap64 (x5 + 1))) else (some (-1))) else (none)) else (some x1)
def laws_heldIntS.f (k : Nat) (l0 : List Int) (a1 : Int) : Option (Int) := laws_heldIntS.l0 k l0 a1 0
theorem laws_heldIntS.calls (k : Nat) (A0 : Option Addr) (c0 : Nat) (l0 : List Int) (a1 : Int) (r : Int) (w : World) (hr0 : Kd.C (Kd.int .i64) w A0 l0.length l0) (hc0 : l0.length ≤ c0) (h : laws_heldIntS.f k l0 a1 = some r) :
  Calls Tryz.prog 20 #[.slice A0 l0.length c0, .int .i64 a1] w fun e w' => e = .returned (.int .i64 r) ∧ Drawn0 w w' := by
 have HR0 := Aside0.mk hr0
 have HC0 := Aside0.mk hc0
 clear hr0 hc0
 have H : (laws_heldIntS.l0 k l0 a1 0) = some r := h
 clear h
 have H' := Aside0.mk H
 clear H
 go_enter Tryz.func20, Tryz.ntmps20
 go_wp2
 go_loopg [1, 5] k (fun kq v1 v5 w' => ∃ (x1_1 : Int) (x5_1 : Int), v1 = .int .i64 x1_1 ∧ v5 = .int .i64 x5_1 ∧ Aside0 (laws_heldIntS.l0 kq l0 x1_1 x5_1 = some r) ∧ Aside0 (kq ≤ k) ∧ Drawn0 w w')
 case atStart => exact ⟨(a1), (0), Xr, Xr, H', Xkr, by repeat (first | exact Drawn0.refl _ | apply Drawn0.step)⟩
 clear H'
 obtain ⟨x1_1, x5_1, rfl, rfl, HA, HK1, ⟨m1, rfl⟩⟩ := hrel
 cases gk with | zero => cases HA.out | succ k1 => ?_
 have H := HA.out
 clear HA
 simp only [laws_heldIntS.l0] at H
 obtain ⟨c3b0, H⟩ | ⟨c3b0, H⟩ := Xit H
 ·obtain ⟨c4b0, H⟩ := Xid H
  obtain ⟨c5, H⟩ | ⟨c5, H⟩ := Xiu H
  ·have c5b0 : ((rd l0 x5_1) == x1_1) = true := beq_iff_eq.mpr c5
   have c5b1 : ((rd l0 x5_1) != x1_1) = false := bne_eq_false_iff_eq.mpr c5
   clear c5
   have H' := Aside0.mk H
   clear H
   have p151 : 0 ≤ (x5_1 : Int) := of_decide_eq_true Xa
   have q151 : x5_1 < (l0.length : Int) := of_decide_eq_true Xa
   obtain ⟨ad151, e151, hx151_0⟩ := Kd.at_int HR0.out x5_1 p151 q151
   cases e151
   replace p151 := eq_true p151
   replace q151 := eq_true q151
   go_wp2
   go_roundg k1
   case measure => have := HK1.out; omega
   case rel => exact ⟨(wrap64 (x1_1 + 1)), (wrap64 (x5_1 + 1)), Xr, Xr, H', Xk1, by repeat (first | exact Drawn0.refl _ | apply Drawn0.step)⟩
  have c5b0 : ((rd l0 x5_1) == x1_1) = false := beq_eq_false_iff_ne.mpr c5
  have c5b1 : ((rd l0 x5_1) != x1_1) = true := bne_iff_ne.mpr c5
  obtain rfl := Option.some.inj H
  have p151 : 0 ≤ (x5_1 : Int) := of_decide_eq_true Xa
  have q151 : x5_1 < (l0.length : Int) := of_decide_eq_true Xa
  obtain ⟨ad151, e151, hx151_0⟩ := Kd.at_int HR0.out x5_1 p151 q151
  cases e151
  replace p151 := eq_true p151
  replace q151 := eq_true q151
  go_wp2
  go_ret
  exact ⟨Xr, Xdr⟩
 obtain rfl := Option.some.inj H
 go_wp2
 go_ret
 exact ⟨Xr, Xdr⟩
def laws_szHoldS.f (l0 : List (S27)) (a1 : Int) : Option (Int) := if (wrap64 (a1 - (l0.length : Int))) < 0 then (some (-1)) else (some (wrap64 (a1 - (l0.length : Int))))
theorem laws_szHoldS.calls (A0 : Option Addr) (c0 : Nat) (l0 : List (S27)) (a1 : Int) (r : Int) (w : World) (hr0 : Kd.C k27 w A0 l0.length l0) (hc0 : l0.length ≤ c0) (h : laws_szHoldS.f l0 a1 = some r) :
  Calls Tryz.prog 8 #[.slice A0 l0.length c0, .int .i64 a1] w fun e w' => e = .returned (.int .i64 r) ∧ Drawn0 w w' := by
 have HR0 := Aside0.mk hr0
 have HC0 := Aside0.mk hc0
 clear hr0 hc0
 have H : (if (wrap64 (a1 - (l0.length : Int))) < 0 then (some (-1)) else (some (wrap64 (a1 - (l0.length : Int))))) = some r := h
 clear h
 obtain ⟨c3b0, H⟩ | ⟨c3b0, H⟩ := Xit H
 ·obtain rfl := Option.some.inj H
  go_enter Tryz.func8, Tryz.ntmps8
  go_wp2
  go_ret
  exact ⟨Xr, Xdr⟩
 obtain rfl := Option.some.inj H
 go_enter Tryz.func8, Tryz.ntmps8
 go_wp2
 go_ret
 exact ⟨Xr, Xdr⟩
def laws_szTable.f (l0_0 : List (S27)) (l0_1 : List (S27)) (a1 : Int) : Option (Int) := (laws_szHoldS.f l0_0 a1).bind fun t153 => (if t153 < 0 then (some (-1)) else ((laws_szHoldS.f l0_1 t153).bind fun t154 => (if t154 < 0 then (some (-1)) else (some t154))))
theorem laws_szTable.calls (A0_0 : Option Addr) (c0_0 : Nat) (l0_0 : List (S27)) (A0_1 : Option Addr) (c0_1 : Nat) (l0_1 : List (S27)) (a1 : Int) (r : Int) (w : World) (hr0_0 : Kd.C k27 w A0_0 l0_0.length l0_0) (hc0_0 : l0_0.length ≤ c0_0) (hr0_1 : Kd.C k27 w A0_1 l0_1.length l0_1) (hc0_1 : l0_1.length ≤ c0_1) (h : laws_szTable.f l0_0 l0_1 a1 = some r) :
  Calls Tryz.prog 21 #[.agg #[.slice A0_0 l0_0.length c0_0, .slice A0_1 l0_1.length c0_1], .int .i64 a1] w fun e w' => e = .returned (.int .i64 r) ∧ Below w.heap.size w w' := by
 have hu49 := Tryz.underlying49
 have HR0_0 := Aside0.mk hr0_0
 have HC0_0 := Aside0.mk hc0_0
 clear hr0_0 hc0_0
 have HR0_1 := Aside0.mk hr0_1
 have HC0_1 := Aside0.mk hc0_1
 clear hr0_1 hc0_1
 have HB := Aside0.mk (Below.refl w.heap.size w)
 have H : ((laws_szHoldS.f l0_0 a1).bind fun t153 => (if t153 < 0 then (some (-1)) else ((laws_szHoldS.f l0_1 t153).bind fun t154 => (if t154 < 0 then (some (-1)) else (some t154))))) = some r := h
 clear h
 obtain ⟨t153, A3, H⟩ := Xbi H
 try dsimp only at H
 have HC4 := Aside0.mk H
 clear H
 go_enter Tryz.func21, Tryz.ntmps21
 go_upto_if 10 with (first | ((with_reducible refine gate_dst (N := 2) rfl ?_); refine Xbox 2 #[.slice A0_0 l0_0.length c0_0, .slice A0_1 l0_1.length c0_1] 49 ?_; intro gb152 hg w5 hbox hb; have BK152 := Aside0.mk (hbox); have GE152 := Xge hg Xi; replace HB := Aside0.mk (below_step Xi hb); clear hb hbox hg; obtain ⟨hcz6_0, hcz6_1⟩ := Xc2 BK152) | ((with_reducible refine gate_callee (f := 8) rfl ?_); refine Xgo 8 Tryz.func8 #[.slice A0_0 l0_0.length c0_0, .int .i64 a1] ?_; (with_reducible refine (laws_szHoldS.calls _ _ l0_0 a1 t153 _ ?side1 ?side2 A3.out).mono ?_); (case side1 => exact Xc HR0_0); (case side2 => exact HC0_0.out); rintro e w' ⟨rfl, ⟨nd, rfl⟩⟩; refine ⟨_, rfl, ?_⟩))
 have H := HC4.out
 clear HC4
 obtain ⟨c7b0, H⟩ | ⟨c7b0, H⟩ := Xit H
 ·(first | rw [c7b0] | (simp only [i64_w, i32_w]; rw [c7b0]) | skip)
  obtain rfl := Option.some.inj H
  go_wp2
  go_ret
  exact ⟨Xe, Xi⟩
 (first | rw [c7b0] | (simp only [i64_w, i32_w]; rw [c7b0]) | skip)
 obtain ⟨t154, A8, H⟩ := Xbi H
 try dsimp only at H
 have HC9 := Aside0.mk H
 clear H
 obtain ⟨hcz10_0, hcz10_1⟩ := Xc2 BK152
 go_upto_if 16 with (first | ((with_reducible refine gate_callee (f := 8) rfl ?_); refine Xgo 14 Tryz.func8 #[.slice A0_1 l0_1.length c0_1, .int .i64 t153] ?_; (with_reducible refine (laws_szHoldS.calls _ _ l0_1 t153 t154 _ ?side1 ?side2 A8.out).mono ?_); (case side1 => exact Xc HR0_1); (case side2 => exact HC0_1.out); rintro e w' ⟨rfl, ⟨nd, rfl⟩⟩; refine ⟨_, rfl, ?_⟩))
 have H := HC9.out
 clear HC9
 obtain ⟨c11b0, H⟩ | ⟨c11b0, H⟩ := Xit H
 ·(first | rw [c11b0] | (simp only [i64_w, i32_w]; rw [c11b0]) | skip)
  obtain rfl := Option.some.inj H
  go_wp2
  go_ret
  exact ⟨Xe, Xi⟩
 (first | rw [c11b0] | (simp only [i64_w, i32_w]; rw [c11b0]) | skip)
 obtain rfl := Option.some.inj H
 go_wp2
 go_ret
 exact ⟨Xe, Xi⟩
def spec_l01In.f (a0 : Int) (a1 : Int) (a2 : Int) : Option (Bool) := if a0 ≥ a1 then (some (decide (a0 ≤ a2))) else (some false)
theorem spec_l01In.calls (a0 : Int) (a1 : Int) (a2 : Int) (r : Bool) (w : World) (h : spec_l01In.f a0 a1 a2 = some r) :
  Calls Tryz.prog 88 #[.int .i64 a0, .int .i64 a1, .int .i64 a2] w fun e w' => e = .returned (.bool r) ∧ Drawn0 w w' := by
 have H : (if a0 ≥ a1 then (some (decide (a0 ≤ a2))) else (some false)) = some r := h
 clear h
 obtain ⟨c4, H⟩ | ⟨c4, H⟩ := Xiu H
 ·have c4b0 : decide (a1 ≤ a0) = true := decide_eq_true c4
  clear c4
  obtain rfl := Option.some.inj H
  go_enter Tryz.func88, Tryz.ntmps88
  go_wp2
  go_ret
  exact ⟨Xr, Xdr⟩
 have c4b0 : decide (a1 ≤ a0) = false := decide_eq_false c4
 clear c4
 obtain rfl := Option.some.inj H
 go_enter Tryz.func88, Tryz.ntmps88
 go_wp2
 go_ret
 exact ⟨Xr, Xdr⟩
def spec_l02At.l0 : Nat → Int → Int → Int → Int → List (S113) → Option (Int)
 | 0, _, _, _, _, _ => none
 | k + 1, x1, x5, x156000, x156001, x156002 => if x5 < (x156002.length : Int) then (if 0 ≤ x5 then (if ((rd_T113 x156002 x5).f0) = x1 then (some x5) else (spec_l02At.l0 k x1 (wrap64 (x5 + 1)) x156000 x156001 x156002)) else (none)) else (some (-1))
def spec_l02At.f (k : Nat) (a0_0 : Int) (a0_1 : Int) (l0_2 : List (S113)) (a1 : Int) : Option (Int) := spec_l02At.l0 k a1 0 a0_0 a0_1 l0_2
theorem spec_l02At.calls (k : Nat) (a0_0 : Int) (a0_1 : Int) (A0_2 : Option Addr) (c0_2 : Nat) (l0_2 : List (S113)) (a1 : Int) (r : Int) (w : World) (hr0_2 : Kd.C k113 w A0_2 l0_2.length l0_2) (hc0_2 : l0_2.length ≤ c0_2) (h : spec_l02At.f k a0_0 a0_1 l0_2 a1 = some r) :
  Calls Tryz.prog 89 #[.agg #[.int .i64 a0_0, .int .i64 a0_1, .slice A0_2 l0_2.length c0_2], .int .i64 a1] w fun e w' => e = .returned (.int .i64 r) ∧ Below w.heap.size w w' := by
 have hu35 := Tryz.underlying35
 have HR0_2 := Aside0.mk hr0_2
 have HC0_2 := Aside0.mk hc0_2
 clear hr0_2 hc0_2
 have HB := Aside0.mk (Below.refl w.heap.size w)
 have H : (spec_l02At.l0 k a1 0 a0_0 a0_1 l0_2) = some r := h
 clear h
 have H' := Aside0.mk H
 clear H
 go_enter Tryz.func89, Tryz.ntmps89
 go_wp2_with (first | ((with_reducible refine gate_dst (N := 2) rfl ?_); refine Xbox 2 #[.int .i64 a0_0, .int .i64 a0_1, .slice A0_2 l0_2.length c0_2] 35 ?_; intro gb155 hg w3 hbox hb; have BK155 := Aside0.mk (hbox); have GE155 := Xge hg Xi; replace HB := Aside0.mk (below_step Xi hb); clear hb hbox hg))
 go_loopg [5] k (fun kq v5 w' => ∃ (x5_1 : Int), v5 = .int .i64 x5_1 ∧ Aside0 (spec_l02At.l0 kq a1 x5_1 a0_0 a0_1 l0_2 = some r) ∧ Aside0 (kq ≤ k) ∧ Aside0 (w'.heap[gb155]? = some (.cells #[.int .i64 a0_0, .int .i64 a0_1, (.slice A0_2 l0_2.length c0_2)] 35 (0, 0))) ∧ Aside0 (Below w.heap.size w w'))
 case atStart => exact ⟨(0), Xr, H', Xkr, BK155, ⟨Xi⟩⟩
 clear H'
 obtain ⟨x5_1, rfl, HA, HK1, BK155, HB⟩ := hrel
 cases gk with | zero => cases HA.out | succ k1 => ?_
 have H := HA.out
 clear HA
 simp only [spec_l02At.l0] at H
 obtain ⟨c4b0, H⟩ | ⟨c4b0, H⟩ := Xit H
 ·obtain ⟨c5b0, H⟩ := Xid H
  obtain ⟨c6, H⟩ | ⟨c6, H⟩ := Xiu H
  ·have c6b0 : (((rd_T113 l0_2 x5_1).f0) == a1) = true := beq_iff_eq.mpr c6
   have c6b1 : (((rd_T113 l0_2 x5_1).f0) != a1) = false := bne_eq_false_iff_eq.mpr c6
   clear c6
   obtain rfl := Option.some.inj H
   obtain ⟨hcz7_0, hcz7_1, hcz7_2⟩ := Xc3 BK155
   obtain ⟨ad156, A156_4, c156_4, e156, p156, q156, hx156_0, hx156_1, hx156_2, hx156_3, hx156_4, HC156_4, HR156_4⟩ := at_B113 HR0_2 x5_1 Xa Xa HB
   cases e156
   go_wp2
   go_ret
   exact ⟨Xe, Xi⟩
  have c6b0 : (((rd_T113 l0_2 x5_1).f0) == a1) = false := beq_eq_false_iff_ne.mpr c6
  have c6b1 : (((rd_T113 l0_2 x5_1).f0) != a1) = true := bne_iff_ne.mpr c6
  have H' := Aside0.mk H
  clear H
  obtain ⟨hcz8_0, hcz8_1, hcz8_2⟩ := Xc3 BK155
  obtain ⟨ad156, A156_4, c156_4, e156, p156, q156, hx156_0, hx156_1, hx156_2, hx156_3, hx156_4, HC156_4, HR156_4⟩ := at_B113 HR0_2 x5_1 Xa Xa HB
  cases e156
  go_wp2
  go_roundg k1
  case measure => have := HK1.out; omega
  case rel => exact ⟨(wrap64 (x5_1 + 1)), Xr, H', Xk1, BK155, ⟨Xi⟩⟩
 obtain rfl := Option.some.inj H
 obtain ⟨hcz9_0, hcz9_1, hcz9_2⟩ := Xc3 BK155
 go_wp2
 go_ret
 exact ⟨Xe, Xi⟩
mutual
def spec_l02Deep.l0 : Nat → Int → Int → List Int → Int → Int → Int → List (S113) → Option (Int)
 | 0, _, _, _, _, _, _, _ => none
 | k + 1, x2, x7, x8, x9, x158000, x158001, x158002 => if x9 < (x8.length : Int) then (if 0 ≤ x9 then ((spec_l02Deep.f k x158000 x158001 x158002 (rd x8 x9) (wrap64 (x2 - 1))).bind fun t161 => (spec_l02Deep.l0 k x2 (mx x7 t161) x8 (wrap64 (x9 + 1)) x158000 x158001 x158002)) else (none)) else (some (wrap64 (x7 + 1)))
def spec_l02Deep.f : Nat → Int → Int → List (S113) → Int → Int → Option (Int)
 | 0, _, _, _, _, _ => none
 | k + 1, a0_0, a0_1, l0_2, a1, a2 => if a2 = 0 then (some 1) else ((spec_l02At.f k a0_0 a0_1 l0_2 a1).bind fun t158 => (if 0 ≤ t158 then (if t158 < (l0_2.length : Int) then (spec_l02Deep.l0 k a2 0 ((rd_T113 l0_2 t158).f4) 0 a0_0 a0_1 l0_2) else (none)) else (none)))
end
def spec_l02Deep.T4 : Bool × List (List Nat × List Nat) := (true, [([], []), ([0], [0]), ([], []), ([], []), ([2, 3], [2, 3]), ([1, 4], [1, 4]), ([5], [5]), ([6], [6]), ([7, 4, 0, 1, 2, 3, 4, 5, 6, 7], [7])])
def spec_l02Deep.B4 : List Nat := [0, 1, 0, 0, 12, 31, 63, 127, 255]
theorem spec_l02Deep.tab4 : rtab .any (opsOf Tryz.f158 4) = spec_l02Deep.T4 := by kernel_rfl
theorem spec_l02Deep.bits4 : waitsOk spec_l02Deep.T4.2 spec_l02Deep.B4 = true := by kernel_rfl
def spec_l02Deep.T8 : Bool × List (List Nat × List Nat) := (true, [([], []), ([], []), ([], []), ([], []), ([2, 3], [2, 3]), ([4], [4]), ([], []), ([6], [6]), ([1, 5, 7], [1, 5, 7]), ([0, 8], [0, 8]), ([9, 8, 0, 1, 2, 3, 4, 5, 6, 7, 8, 9], [0, 9])])
def spec_l02Deep.B8 : List Nat := [0, 0, 0, 0, 12, 28, 0, 64, 254, 511, 1023]
theorem spec_l02Deep.tab8 : rtab .any (opsOf Tryz.f158 8) = spec_l02Deep.T8 := by kernel_rfl
theorem spec_l02Deep.bits8 : waitsOk spec_l02Deep.T8.2 spec_l02Deep.B8 = true := by kernel_rfl
theorem spec_l02Deep.calls (k : Nat) : ∀ (a0_0 : Int) (a0_1 : Int) (A0_2 : Option Addr) (c0_2 : Nat) (l0_2 : List (S113)) (a1 : Int) (a2 : Int) (r : Int) (w : World) (hr0_2 : Kd.C k113 w A0_2 l0_2.length l0_2) (hc0_2 : l0_2.length ≤ c0_2) (h : spec_l02Deep.f k a0_0 a0_1 l0_2 a1 a2 = some r),
  Calls Tryz.prog 158 #[.agg #[.int .i64 a0_0, .int .i64 a0_1, .slice A0_2 l0_2.length c0_2], .int .i64 a1, .int .i64 a2] w fun e w' => e = .returned (.int .i64 r) ∧ Below w.heap.size w w' := by
 induction k using Nat.strongRecOn with
 | _ k ih =>
 intro a0_0 a0_1 A0_2 c0_2 l0_2 a1 a2 r w hr0_2 hc0_2 h
 cases k with
 | zero => exact absurd h (by simp [spec_l02Deep.f])
 | succ k =>
 simp only [spec_l02Deep.f] at h
 have hu35 := Tryz.underlying35
 have HR0_2 := Aside0.mk hr0_2
 have HC0_2 := Aside0.mk hc0_2
 clear hr0_2 hc0_2
 have HB := Aside0.mk (Below.refl w.heap.size w)
 have H : (if a2 = 0 then (some 1) else ((spec_l02At.f k a0_0 a0_1 l0_2 a1).bind fun t158 => (if 0 ≤ t158 then (if t158 < (l0_2.length : Int) then (spec_l02Deep.l0 k a2 0 ((rd_T113 l0_2 t158).f4) 0 a0_0 a0_1 l0_2) else (none)) else (none)))) = some r := h
 clear h
 have HC4 := Aside0.mk H
 clear H
 go_enter Tryz.func158, Tryz.ntmps158
 go_upto_if 11 with (first | ((with_reducible refine gate_dst (N := 3) rfl ?_); refine Xbox 3 #[.int .i64 a0_0, .int .i64 a0_1, .slice A0_2 l0_2.length c0_2] 35 ?_; intro gb157 hg w5 hbox hb; have BK157 := Aside0.mk (hbox); have GE157 := Xge hg Xi; replace HB := Aside0.mk (below_step Xi hb); clear hb hbox hg))
 have H := HC4.out
 clear HC4
 obtain ⟨c6, H⟩ | ⟨c6, H⟩ := Xiu H
 ·have c6b0 : (a2 == 0) = true := beq_iff_eq.mpr c6
  have c6b1 : (a2 != 0) = false := bne_eq_false_iff_eq.mpr c6
  clear c6
  (first | rw [c6b0] | (simp only [i64_w, i32_w]; rw [c6b0]) | skip)
  obtain rfl := Option.some.inj H
  go_wp2
  go_ret
  exact ⟨Xe, Xi⟩
 have c6b0 : (a2 == 0) = false := beq_eq_false_iff_ne.mpr c6
 have c6b1 : (a2 != 0) = true := bne_iff_ne.mpr c6
 (first | rw [c6b0] | (simp only [i64_w, i32_w]; rw [c6b0]) | skip)
 obtain ⟨t158, A7, H⟩ := Xbi H
 try dsimp only at H
 obtain ⟨c8, H⟩ | ⟨c8, H⟩ := Xiu H
 ·have c8b0 : decide (0 ≤ t158) = true := decide_eq_true c8
  clear c8
  obtain ⟨c9b0, H⟩ := Xid H
  have H' := Aside0.mk H
  clear H
  try go_wp2_with (fail)
  replace BK157 := Aside0.mk (blk_drew BK157.out)
  replace HB := Aside0.mk (below_drew1 HB.out)
  have p159 : 0 ≤ (t158 : Int) := of_decide_eq_true Xa
  have q159 : t158 < (l0_2.length : Int) := of_decide_eq_true Xa
  obtain ⟨ad159, A159_4, c159_4, e159, hx159_0, hx159_1, hx159_2, hx159_3, hx159_4, hl159_4, hi159_4⟩ := at_T113 HR0_2.out t158 p159 q159
  have hw159_4 := hx159_4
  have hw159_3 := hx159_3
  have hw159_2 := hx159_2
  have hw159_1 := hx159_1
  have hw159_0 := hx159_0
  cases e159
  replace hx159_0 := Xm HB hx159_0
  replace hx159_1 := Xm HB hx159_1
  replace hx159_2 := Xm HB hx159_2
  replace hx159_3 := Xm HB hx159_3
  replace hx159_4 := Xm HB hx159_4
  have HR159_4 := Aside0.mk hi159_4
  have HC159_4 := Aside0.mk hl159_4
  clear hi159_4 hl159_4
  replace p159 := eq_true p159
  replace q159 := eq_true q159
  refine start_ (n := 9) (S := fun w' => w'.cell? ⟨gb157, 0, none⟩ = some (.int .i64 a0_0) ∧ w'.cell? ⟨gb157, 1, none⟩ = some (.int .i64 a0_1) ∧ w'.cell? ⟨gb157, 2, none⟩ = some (.slice (some ad159) l0_2.length c0_2) ∧ w'.cell? (ad159.add ((t158).toNat * 5)) = some (.int .i64 ((rd_T113 l0_2 t158).f0)) ∧ w'.cell? ⟨(ad159.add ((t158).toNat * 5)).block, (ad159.add ((t158).toNat * 5)).off + 1, none⟩ = some (.int .i64 ((rd_T113 l0_2 t158).f1)) ∧ w'.cell? ⟨(ad159.add ((t158).toNat * 5)).block, (ad159.add ((t158).toNat * 5)).off + 2, none⟩ = some (.int .i64 ((rd_T113 l0_2 t158).f2)) ∧ w'.cell? ⟨(ad159.add ((t158).toNat * 5)).block, (ad159.add ((t158).toNat * 5)).off + 3, none⟩ = some (.string ((rd_T113 l0_2 t158).f3)) ∧ w'.cell? ⟨(ad159.add ((t158).toNat * 5)).block, (ad159.add ((t158).toNat * 5)).off + 4, none⟩ = some (.slice A159_4 ((rd_T113 l0_2 t158).f4).length c159_4)) (ds := []) #[false, false, false, false, false, false, false, false, false] (by kernel_rfl) rfl rfl ⟨(blk_cell BK157.out 0).trans rfl, (blk_cell BK157.out 1).trans rfl, (blk_cell BK157.out 2).trans rfl, Xn hw159_0, Xn hw159_1, Xn hw159_2, Xn hw159_3, Xn hw159_4⟩ (fun hHeld => ?_); refine with_tabW spec_l02Deep.tab4 spec_l02Deep.bits4 (fun HT_ HW_ => ?_)
  generalize w5.drew = w10 at BK157 HB HR159_4 hx159_0 hx159_1 hx159_2 hx159_3 hx159_4 hHeld ⊢
  refine Xpu 0 12 (XW.bs 9 1) HT_.out ?_
  refine Xpu 3 15 (XW.bs 9 9) HT_.out ?_
  refine Xta 1 13 (XW.bs 9 11) HT_.out HW_.out hHeld ?_
  refine Xta 2 14 (XW.bs 9 15) HT_.out HW_.out hHeld ?_
  refine one_ (i := 4) (N := some 16) (XW.bs 9 31) rfl rfl (one_of HT_.out (by kernel_rfl)) (by decide) (fun K hK => ?_)
  refine goes_ Tryz.func89 (by kernel_rfl) rfl #[.agg #[.int .i64 a0_0, .int .i64 a0_1, .slice (some ad159) l0_2.length c0_2], .int .i64 a1] (by rfl) rfl rfl (by (try simp only [List.map_toArray, List.map_cons, List.map_nil]); first | done | rfl | (simp only [List.length_drop, List.length_take]; rfl)) ?_
  with_reducible refine (spec_l02At.calls k a0_0 a0_1 _ _ l0_2 a1 t158 _ ?side1 ?side2 A7.out).mono ?_
  (case side1 => exact Xc HR0_2)
  (case side2 => exact HC0_2.out)
  rintro e w11 ⟨rfl, hb⟩
  refine ⟨_, rfl, ?_⟩
  replace BK157 := Xbb BK157 hb
  replace HB := Aside0.mk (below_step Xi hb)
  try clear hb
  try clear hb2
  try clear hk
  try clear hi
  refine hK.out _ _ ⟨(blk_cell BK157.out 0).trans rfl, (blk_cell BK157.out 1).trans rfl, (blk_cell BK157.out 2).trans rfl, Xn hw159_0, Xn hw159_1, Xn hw159_2, Xn hw159_3, Xn hw159_4⟩ (fun hHeld => ?_)
  clear hK K
  refine Xno ?_
  refine Xpu 5 17 (XW.bs 9 63) HT_.out ?_
  refine Xpu 6 18 (XW.bs 9 127) HT_.out ?_
  refine Xta 7 19 (XW.bs 9 255) HT_.out HW_.out hHeld ?_
  refine Xpu 8 8 (XW.bs 9 511) HT_.out ?_
  refine done_ (done_of HT_.out (by kernel_rfl)) ?_
  try go_wp2_with (fail)
  go_loopg [7, 9] k (fun kq v7 v9 w' => ∃ (x7_1 : Int) (x9_1 : Int), v7 = .int .i64 x7_1 ∧ v9 = .int .i64 x9_1 ∧ Aside0 (spec_l02Deep.l0 kq a2 x7_1 ((rd_T113 l0_2 t158).f4) x9_1 a0_0 a0_1 l0_2 = some r) ∧ Aside0 (kq ≤ k) ∧ Aside0 (w'.heap[gb157]? = some (.cells #[.int .i64 a0_0, .int .i64 a0_1, (.slice (some ad159) l0_2.length c0_2)] 35 (0, 0))) ∧ Aside0 (Below w.heap.size w w'))
  case atStart => exact ⟨(0), (0), Xr, Xr, H', Xkr, BK157, ⟨Xi⟩⟩
  clear H'
  (try clear c6); (try clear c6b0); (try clear c6b1); (try clear c8); (try clear c8b0); (try clear c9); (try clear c9b0); (try clear hx159_0); (try clear hx159_1); (try clear hx159_2); (try clear hx159_3); (try clear hx159_4); (try clear p159); (try clear q159)
  obtain ⟨x7_1, x9_1, rfl, rfl, HA, HK1, BK157, HB⟩ := hrel
  cases gk with | zero => cases HA.out | succ k1 => ?_
  have H := HA.out
  clear HA
  simp only [spec_l02Deep.l0] at H
  obtain ⟨c12b0, H⟩ | ⟨c12b0, H⟩ := Xit H
  ·obtain ⟨c13b0, H⟩ := Xid H
   obtain ⟨t161, A14, H⟩ := Xbi H
   try dsimp only at H
   obtain ⟨ji15, hji15⟩ : ∃ j_ : Int, (mx x7_1 t161) = j_ := ⟨_, rfl⟩
   replace H : (spec_l02Deep.l0 k1 a2 ji15 ((rd_T113 l0_2 t158).f4) (wrap64 (x9_1 + 1)) a0_0 a0_1 l0_2) = some r := by first | (rw [hji15] at H; exact H) | (simp only [hji15] at H ⊢; exact H)
   (try rw [hji15] at A14)
   have hji15_ : (if x7_1 < t161 then t161 else x7_1) = ji15 := hji15
   have H' := Aside0.mk H
   clear H
   try go_wp2_with (fail)
   replace BK157 := Aside0.mk (blk_drew BK157.out)
   replace HB := Aside0.mk (below_drew1 HB.out)
   have p160 : 0 ≤ (x9_1 : Int) := of_decide_eq_true Xa
   have q160 : x9_1 < (((rd_T113 l0_2 t158).f4).length : Int) := of_decide_eq_true Xa
   obtain ⟨ad160, e160, hx160_0⟩ := Kd.at_int HR159_4.out x9_1 p160 q160
   have hw160_0 := hx160_0
   cases e160
   replace hx160_0 := Xm HB hx160_0
   replace p160 := eq_true p160
   replace q160 := eq_true q160
   refine start_ (n := 11) (S := fun w' => w'.cell? ⟨gb157, 0, none⟩ = some (.int .i64 a0_0) ∧ w'.cell? ⟨gb157, 1, none⟩ = some (.int .i64 a0_1) ∧ w'.cell? ⟨gb157, 2, none⟩ = some (.slice (some ad159) l0_2.length c0_2) ∧ w'.cell? (ad160.add (x9_1).toNat) = some (.int .i64 (rd ((rd_T113 l0_2 t158).f4) x9_1))) (ds := []) #[false, false, false, false, false, false, false, false, false, false, false] (by kernel_rfl) rfl rfl ⟨(blk_cell BK157.out 0).trans rfl, (blk_cell BK157.out 1).trans rfl, (blk_cell BK157.out 2).trans rfl, Xn hw160_0⟩ (fun hHeld => ?_); refine with_tabW spec_l02Deep.tab8 spec_l02Deep.bits8 (fun HT_ HW_ => ?_)
   generalize wr.drew = w16 at BK157 HB hx160_0 hHeld ⊢
   refine Xpu 0 26 (XW.bs 11 1) HT_.out ?_
   refine Xpu 2 28 (XW.bs 11 5) HT_.out ?_
   refine Xpu 3 29 (XW.bs 11 13) HT_.out ?_
   refine Xpu 4 30 (XW.bs 11 29) HT_.out ?_
   refine Xpu 6 32 (XW.bs 11 93) HT_.out ?_
   refine Xpu 7 33 (XW.bs 11 221) HT_.out ?_
   refine Xta 1 27 (XW.bs 11 223) HT_.out HW_.out hHeld ?_
   refine Xta 5 31 (XW.bs 11 255) HT_.out HW_.out hHeld ?_
   refine one_ (i := 8) (N := some 34) (XW.bs 11 511) rfl rfl (one_of HT_.out (by kernel_rfl)) (by decide) (fun K hK => ?_)
   refine goes_ Tryz.func158 (by kernel_rfl) rfl #[.agg #[.int .i64 a0_0, .int .i64 a0_1, .slice (some ad159) l0_2.length c0_2], .int .i64 (rd ((rd_T113 l0_2 t158).f4) x9_1), .int .i64 (wrap64 (a2 - 1))] (by rfl) rfl rfl (by (try simp only [List.map_toArray, List.map_cons, List.map_nil]); first | done | rfl | (simp only [List.length_drop, List.length_take]; rfl)) ?_
   with_reducible refine (ih k1 (by have := HK1.out; omega) a0_0 a0_1 _ _ l0_2 (rd ((rd_T113 l0_2 t158).f4) x9_1) (wrap64 (a2 - 1)) t161 _ ?side1 ?side2 A14.out).mono ?_
   (case side1 => exact Xc HR0_2)
   (case side2 => exact HC0_2.out)
   rintro e w17 ⟨rfl, hb⟩
   refine ⟨_, rfl, ?_⟩
   replace BK157 := Xbb BK157 hb
   replace HB := Aside0.mk (below_step Xi hb)
   try clear hb
   try clear hb2
   try clear hk
   try clear hi
   refine hK.out _ _ ⟨(blk_cell BK157.out 0).trans rfl, (blk_cell BK157.out 1).trans rfl, (blk_cell BK157.out 2).trans rfl, Xn hw160_0⟩ (fun hHeld => ?_)
   clear hK K
   refine Xno ?_
   refine Xpu 9 35 (XW.bs 11 1023) HT_.out ?_
   refine Xpu 10 7 (XW.bs 11 2047) HT_.out ?_
   refine done_ (done_of HT_.out (by kernel_rfl)) ?_
   try go_wp2_with (fail)
   go_roundg k1
   case measure => have := HK1.out; omega
   case rel => exact ⟨(ji15), (wrap64 (x9_1 + 1)), (by first | rfl | (simp; done) | (simp only [← hji15] <;> (first | rfl | simp)) | (simp [*]; done)), Xr, H', Xk1, BK157, ⟨Xi⟩⟩
  obtain rfl := Option.some.inj H
  go_wp2
  go_ret
  exact ⟨Xe, Xi⟩
 exact absurd H (by simp)
def spec_l02Has.l0 : Nat → List Int → Int → Int → Option (Bool)
 | 0, _, _, _ => none
 | k + 1, x0, x1, x5 => if x5 < (x0.length : Int) then (if 0 ≤ x5 then (if (rd x0 x5) = x1 then (some true) else (spec_l02Has.l0 k x0 x1 (wrap64 (x5 + 1)))) else (none)) else (some false)
def spec_l02Has.f (k : Nat) (l0 : List Int) (a1 : Int) : Option (Bool) := spec_l02Has.l0 k l0 a1 0
theorem spec_l02Has.calls (k : Nat) (A0 : Option Addr) (c0 : Nat) (l0 : List Int) (a1 : Int) (r : Bool) (w : World) (hr0 : Kd.C (Kd.int .i64) w A0 l0.length l0) (hc0 : l0.length ≤ c0) (h : spec_l02Has.f k l0 a1 = some r) :
  Calls Tryz.prog 104 #[.slice A0 l0.length c0, .int .i64 a1] w fun e w' => e = .returned (.bool r) ∧ Drawn0 w w' := by
 have HR0 := Aside0.mk hr0
 have HC0 := Aside0.mk hc0
 clear hr0 hc0
 have H : (spec_l02Has.l0 k l0 a1 0) = some r := h
 clear h
 have H' := Aside0.mk H
 clear H
 go_enter Tryz.func104, Tryz.ntmps104
 go_wp2
 go_loopg [5] k (fun kq v5 w' => ∃ (x5_1 : Int), v5 = .int .i64 x5_1 ∧ Aside0 (spec_l02Has.l0 kq l0 a1 x5_1 = some r) ∧ Aside0 (kq ≤ k) ∧ Drawn0 w w')
 case atStart => exact ⟨(0), Xr, H', Xkr, by repeat (first | exact Drawn0.refl _ | apply Drawn0.step)⟩
 clear H'
 obtain ⟨x5_1, rfl, HA, HK1, ⟨m1, rfl⟩⟩ := hrel
 cases gk with | zero => cases HA.out | succ k1 => ?_
 have H := HA.out
 clear HA
 simp only [spec_l02Has.l0] at H
 obtain ⟨c3b0, H⟩ | ⟨c3b0, H⟩ := Xit H
 ·obtain ⟨c4b0, H⟩ := Xid H
  obtain ⟨c5, H⟩ | ⟨c5, H⟩ := Xiu H
  ·have c5b0 : ((rd l0 x5_1) == a1) = true := beq_iff_eq.mpr c5
   have c5b1 : ((rd l0 x5_1) != a1) = false := bne_eq_false_iff_eq.mpr c5
   clear c5
   obtain rfl := Option.some.inj H
   have p162 : 0 ≤ (x5_1 : Int) := of_decide_eq_true Xa
   have q162 : x5_1 < (l0.length : Int) := of_decide_eq_true Xa
   obtain ⟨ad162, e162, hx162_0⟩ := Kd.at_int HR0.out x5_1 p162 q162
   cases e162
   replace p162 := eq_true p162
   replace q162 := eq_true q162
   go_wp2
   go_ret
   exact ⟨Xr, Xdr⟩
  have c5b0 : ((rd l0 x5_1) == a1) = false := beq_eq_false_iff_ne.mpr c5
  have c5b1 : ((rd l0 x5_1) != a1) = true := bne_iff_ne.mpr c5
  have H' := Aside0.mk H
  clear H
  have p162 : 0 ≤ (x5_1 : Int) := of_decide_eq_true Xa
  have q162 : x5_1 < (l0.length : Int) := of_decide_eq_true Xa
  obtain ⟨ad162, e162, hx162_0⟩ := Kd.at_int HR0.out x5_1 p162 q162
  cases e162
  replace p162 := eq_true p162
  replace q162 := eq_true q162
  go_wp2
  go_roundg k1
  case measure => have := HK1.out; omega
  case rel => exact ⟨(wrap64 (x5_1 + 1)), Xr, H', Xk1, by repeat (first | exact Drawn0.refl _ | apply Drawn0.step)⟩
 obtain rfl := Option.some.inj H
 go_wp2
 go_ret
 exact ⟨Xr, Xdr⟩
def spec_l02Kind.f (a0 : Int) : Option (Bool) := (spec_l01In.f a0 1 8).bind fun t163 => (some t163)
theorem spec_l02Kind.calls (a0 : Int) (r : Bool) (w : World) (h : spec_l02Kind.f a0 = some r) :
  Calls Tryz.prog 197 #[.int .i64 a0] w fun e w' => e = .returned (.bool r) ∧ Drawn0 w w' := by
 have H : ((spec_l01In.f a0 1 8).bind fun t163 => (some t163)) = some r := h
 clear h
 obtain ⟨t163, A2, H⟩ := Xbi H
 try dsimp only at H
 obtain rfl := Option.some.inj H
 go_enter Tryz.func197, Tryz.ntmps197
 go_wp2_with (first | ((with_reducible refine gate_callee (f := 88) rfl ?_); refine Xgo 4 Tryz.func88 #[.int .i64 a0, .int .i64 1, .int .i64 8] ?_; (with_reducible refine (spec_l01In.calls a0 1 8 t163 _ A2.out).mono ?_); rintro e w' ⟨rfl, ⟨nd, rfl⟩⟩; refine ⟨_, rfl, ?_⟩))
 go_ret
 exact ⟨Xr, Xdr⟩
def spec_l02Node.f (a0_0 : Int) (a0_1 : Int) (a0_2 : Int) (a0_3 : ByteArray) (l0_4 : List Int) (a1 : Int) : Option (Bool) := (spec_l01In.f a0_0 1 (wrap64 (a1 - 1))).bind fun t165 => (if t165 = true then ((spec_l02Kind.f a0_1).bind fun t166 => (if t166 = true then ((spec_l01In.f a0_2 0 99).bind fun t167 => (if t167 = true then (if (a0_3.size : Int) ≤ 20 then (some (decide ((l0_4.length : Int) ≤ 12))) else (some false)) else (some false))) else (some false))) else (some false))
theorem spec_l02Node.calls (a0_0 : Int) (a0_1 : Int) (a0_2 : Int) (a0_3 : ByteArray) (A0_4 : Option Addr) (c0_4 : Nat) (l0_4 : List Int) (a1 : Int) (r : Bool) (w : World) (hr0_4 : Kd.C (Kd.int .i64) w A0_4 l0_4.length l0_4) (hc0_4 : l0_4.length ≤ c0_4) (h : spec_l02Node.f a0_0 a0_1 a0_2 a0_3 l0_4 a1 = some r) :
  Calls Tryz.prog 188 #[.agg #[.int .i64 a0_0, .int .i64 a0_1, .int .i64 a0_2, .string a0_3, .slice A0_4 l0_4.length c0_4], .int .i64 a1] w fun e w' => e = .returned (.bool r) ∧ Below w.heap.size w w' := by
 have hu113 := Tryz.underlying113
 have HR0_4 := Aside0.mk hr0_4
 have HC0_4 := Aside0.mk hc0_4
 clear hr0_4 hc0_4
 have HB := Aside0.mk (Below.refl w.heap.size w)
 have H : ((spec_l01In.f a0_0 1 (wrap64 (a1 - 1))).bind fun t165 => (if t165 = true then ((spec_l02Kind.f a0_1).bind fun t166 => (if t166 = true then ((spec_l01In.f a0_2 0 99).bind fun t167 => (if t167 = true then (if (a0_3.size : Int) ≤ 20 then (some (decide ((l0_4.length : Int) ≤ 12))) else (some false)) else (some false))) else (some false))) else (some false))) = some r := h
 clear h
 have HC3 := Aside0.mk H
 clear H
 go_enter Tryz.func188, Tryz.ntmps188
 go_upto_region 1 with (first | ((with_reducible refine gate_dst (N := 2) rfl ?_); (try (refine gate_guard (by rfl) ?_; dsimp only)); refine Xbox 2 #[.int .i64 a0_0, .int .i64 a0_1, .int .i64 a0_2, .string a0_3, .slice A0_4 l0_4.length c0_4] 113 ?_; intro gb164 hg w4 hbox hb; have BK164 := Aside0.mk (hbox); have GE164 := Xge hg Xi; replace HB := Aside0.mk (below_step Xi hb); clear hb hbox hg))
 have H := HC3.out
 clear HC3
 obtain ⟨t165, A5, H⟩ := Xbi H
 try dsimp only at H
 by_cases c6 : t165 = true
 ·subst c6
  try rw [if_pos rfl] at H
  obtain ⟨t166, A7, H⟩ := Xbi H
  try dsimp only at H
  by_cases c8 : t166 = true
  ·subst c8
   try rw [if_pos rfl] at H
   obtain ⟨t167, A9, H⟩ := Xbi H
   try dsimp only at H
   by_cases c10 : t167 = true
   ·subst c10
    try rw [if_pos rfl] at H
    obtain ⟨c11, H⟩ | ⟨c11, H⟩ := Xiu H
    ·have c11b0 : decide ((a0_3.size : Int) ≤ 20) = true := decide_eq_true c11
     have c11b1 : decide (a0_3.size ≤ 20) = true := decide_eq_true (by omega)
     clear c11
     obtain rfl := Option.some.inj H
     obtain ⟨hcz12_0, hcz12_1, hcz12_2, hcz12_3, hcz12_4⟩ := Xc5 BK164
     go_wp2_with (first | ((with_reducible refine gate_callee (f := 88) rfl ?_); refine Xgo 9 Tryz.func88 #[.int .i64 a0_0, .int .i64 1, .int .i64 (wrap64 (a1 - 1))] ?_; (with_reducible refine (spec_l01In.calls a0_0 1 (wrap64 (a1 - 1)) true _ A5.out).mono ?_); rintro e w' ⟨rfl, ⟨nd, rfl⟩⟩; refine ⟨_, rfl, ?_⟩) | (go_at_call 197; (with_reducible refine (spec_l02Kind.calls a0_1 true _ A7.out).mono ?_); rintro e w' ⟨rfl, ⟨nd, rfl⟩⟩) | (go_at_call 88; (with_reducible refine (spec_l01In.calls a0_2 0 99 true _ A9.out).mono ?_); rintro e w' ⟨rfl, ⟨nd, rfl⟩⟩))
     go_ret
     exact ⟨Xe, Xi⟩
    have c11b0 : decide ((a0_3.size : Int) ≤ 20) = false := decide_eq_false c11
    have c11b1 : decide (a0_3.size ≤ 20) = false := decide_eq_false (by omega)
    clear c11
    obtain rfl := Option.some.inj H
    obtain ⟨hcz13_0, hcz13_1, hcz13_2, hcz13_3, hcz13_4⟩ := Xc5 BK164
    go_wp2_with (first | ((with_reducible refine gate_callee (f := 88) rfl ?_); refine Xgo 9 Tryz.func88 #[.int .i64 a0_0, .int .i64 1, .int .i64 (wrap64 (a1 - 1))] ?_; (with_reducible refine (spec_l01In.calls a0_0 1 (wrap64 (a1 - 1)) true _ A5.out).mono ?_); rintro e w' ⟨rfl, ⟨nd, rfl⟩⟩; refine ⟨_, rfl, ?_⟩) | (go_at_call 197; (with_reducible refine (spec_l02Kind.calls a0_1 true _ A7.out).mono ?_); rintro e w' ⟨rfl, ⟨nd, rfl⟩⟩) | (go_at_call 88; (with_reducible refine (spec_l01In.calls a0_2 0 99 true _ A9.out).mono ?_); rintro e w' ⟨rfl, ⟨nd, rfl⟩⟩))
    go_ret
    exact ⟨Xe, Xi⟩
   replace c10 := Bool.eq_false_iff.mpr c10
   subst c10
   try rw [if_neg (show ¬ (false = true) by decide)] at H
   obtain rfl := Option.some.inj H
   obtain ⟨hcz14_0, hcz14_1, hcz14_2, hcz14_3, hcz14_4⟩ := Xc5 BK164
   go_wp2_with (first | ((with_reducible refine gate_callee (f := 88) rfl ?_); refine Xgo 9 Tryz.func88 #[.int .i64 a0_0, .int .i64 1, .int .i64 (wrap64 (a1 - 1))] ?_; (with_reducible refine (spec_l01In.calls a0_0 1 (wrap64 (a1 - 1)) true _ A5.out).mono ?_); rintro e w' ⟨rfl, ⟨nd, rfl⟩⟩; refine ⟨_, rfl, ?_⟩) | (go_at_call 197; (with_reducible refine (spec_l02Kind.calls a0_1 true _ A7.out).mono ?_); rintro e w' ⟨rfl, ⟨nd, rfl⟩⟩) | (go_at_call 88; (with_reducible refine (spec_l01In.calls a0_2 0 99 false _ A9.out).mono ?_); rintro e w' ⟨rfl, ⟨nd, rfl⟩⟩))
   go_ret
   exact ⟨Xe, Xi⟩
  replace c8 := Bool.eq_false_iff.mpr c8
  subst c8
  try rw [if_neg (show ¬ (false = true) by decide)] at H
  obtain rfl := Option.some.inj H
  obtain ⟨hcz15_0, hcz15_1, hcz15_2, hcz15_3, hcz15_4⟩ := Xc5 BK164
  go_wp2_with (first | ((with_reducible refine gate_callee (f := 88) rfl ?_); refine Xgo 9 Tryz.func88 #[.int .i64 a0_0, .int .i64 1, .int .i64 (wrap64 (a1 - 1))] ?_; (with_reducible refine (spec_l01In.calls a0_0 1 (wrap64 (a1 - 1)) true _ A5.out).mono ?_); rintro e w' ⟨rfl, ⟨nd, rfl⟩⟩; refine ⟨_, rfl, ?_⟩) | (go_at_call 197; (with_reducible refine (spec_l02Kind.calls a0_1 false _ A7.out).mono ?_); rintro e w' ⟨rfl, ⟨nd, rfl⟩⟩))
  go_ret
  exact ⟨Xe, Xi⟩
 replace c6 := Bool.eq_false_iff.mpr c6
 subst c6
 try rw [if_neg (show ¬ (false = true) by decide)] at H
 obtain rfl := Option.some.inj H
 obtain ⟨hcz16_0, hcz16_1, hcz16_2, hcz16_3, hcz16_4⟩ := Xc5 BK164
 go_wp2_with (first | ((with_reducible refine gate_callee (f := 88) rfl ?_); refine Xgo 9 Tryz.func88 #[.int .i64 a0_0, .int .i64 1, .int .i64 (wrap64 (a1 - 1))] ?_; (with_reducible refine (spec_l01In.calls a0_0 1 (wrap64 (a1 - 1)) false _ A5.out).mono ?_); rintro e w' ⟨rfl, ⟨nd, rfl⟩⟩; refine ⟨_, rfl, ?_⟩))
 go_ret
 exact ⟨Xe, Xi⟩
mutual
def spec_l02Nodes.l0 : Nat → List Int → Int → Int → Int → List (S113) → Option (Bool)
 | 0, _, _, _, _, _ => none
 | k + 1, x3, x4, x169000, x169001, x169002 => if x4 < (x169002.length : Int) then (if 0 ≤ x4 then ((spec_l02Node.f ((rd_T113 x169002 x4).f0) ((rd_T113 x169002 x4).f1) ((rd_T113 x169002 x4).f2) ((rd_T113 x169002 x4).f3) ((rd_T113 x169002 x4).f4) x169001).bind fun t175 => (if t175 = true then (if x4 > 0 then (if 0 ≤ (wrap64 (x4 - 1)) then (if (wrap64 (x4 - 1)) < (x169002.length : Int) then (spec_l02Nodes.j1 k x3 x4 (decide (((rd_T113 x169002 x4).f0) ≤ ((rd_T113 x169002 (wrap64 (x4 - 1))).f0))) x169000 x169001 x169002 ((rd_T113 x169002 x4).f0) ((rd_T113 x169002 x4).f1) ((rd_T113 x169002 x4).f2) ((rd_T113 x169002 x4).f3) ((rd_T113 x169002 x4).f4)) else (none)) else (none)) else (spec_l02Nodes.j1 k x3 x4 false x169000 x169001 x169002 ((rd_T113 x169002 x4).f0) ((rd_T113 x169002 x4).f1) ((rd_T113 x169002 x4).f2) ((rd_T113 x169002 x4).f3) ((rd_T113 x169002 x4).f4))) else (spec_l02Nodes.j1 k x3 x4 true x169000 x169001 x169002 ((rd_T113 x169002 x4).f0) ((rd_T113 x169002 x4).f1) ((rd_T113 x169002 x4).f2) ((rd_T113 x169002 x4).f3) ((rd_T113 x169002 x4).f4)))) else (none)) else (if (x3.length : Int) = (wrap64 ((x169002.length : Int) - 1)) then ((spec_l02At.f k x169000 x169001 x169002 x169000).bind fun t172 => (some (decide (t172 ≥ 0)))) else (some false))
def spec_l02Nodes.j1 : Nat → List Int → Int → Bool → Int → Int → List (S113) → Int → Int → Int → ByteArray → List Int → Option (Bool)
 | 0, _, _, _, _, _, _, _, _, _, _, _ => none
 | k + 1, x3, x4, x40, x169000, x169001, x169002, x175000, x175001, x175002, x175003, x175004 => if x40 = true then (some false) else (spec_l02Nodes.l1 k x3 x4 0 x169000 x169001 x169002 x175000 x175001 x175002 x175003 x175004)
def spec_l02Nodes.l1 : Nat → List Int → Int → Int → Int → Int → List (S113) → Int → Int → Int → ByteArray → List Int → Option (Bool)
 | 0, _, _, _, _, _, _, _, _, _, _, _ => none
 | k + 1, x3, x4, x6, x169000, x169001, x169002, x175000, x175001, x175002, x175003, x175004 => if x6 < (x175004.length : Int) then (if 0 ≤ x6 then (if (rd x175004 x6) = x169000 then (some false) else ((spec_l02Has.f k x3 (rd x175004 x6)).bind fun t179 => (if t179 = true then (some false) else ((spec_l02At.f k x169000 x169001 x169002 (rd x175004 x6)).bind fun t181 => (if t181 < 0 then (some false) else (if x3.length < 17592186044416 then (spec_l02Nodes.l1 k (x3 ++ [rd x175004 x6]) x4 (wrap64 (x6 + 1)) x169000 x169001 x169002 x175000 x175001 x175002 x175003 x175004) else (none))))))) else (none)) else (spec_l02Nodes.l0 k x3 (wrap64 (x4 + 1)) x169000 x169001 x169002)
end
def spec_l02Nodes.f (k : Nat) (a0_0 : Int) (a0_1 : Int) (l0_2 : List (S113)) : Option (Bool) := spec_l02Nodes.l0 k (([] : List Int)) 0 a0_0 a0_1 l0_2
def spec_l02Nodes.T6 : Bool × List (List Nat × List Nat) := (true, [([], []), ([], []), ([1], [1]), ([0, 2], [0, 2]), ([3], [3]), ([4, 3], [4]), ([5], [5]), ([6, 5], [5, 6]), ([7, 5, 5], [5, 7]), ([8], [8]), ([9, 8], [8, 9]), ([8], [8]), ([11, 8], [8, 11]), ([8], [8]), ([13, 8], [8, 13]), ([12, 14, 8], [8, 12, 14]), ([15, 8], [8, 15]), ([16, 8], [8, 16]), ([10, 17, 8], [8, 10, 17]), ([8, 18, 5], [5, 8, 18]), ([5, 19], [5, 19])])
def spec_l02Nodes.B6 : List Nat := [0, 0, 2, 7, 15, 31, 63, 127, 255, 511, 1023, 511, 2559, 511, 8703, 31231, 63999, 129535, 262143, 524287, 1048575]
theorem spec_l02Nodes.tab6 : rtab .any (opsOf Tryz.f169 6) = spec_l02Nodes.T6 := by kernel_rfl
theorem spec_l02Nodes.bits6 : waitsOk spec_l02Nodes.T6.2 spec_l02Nodes.B6 = true := by kernel_rfl
def spec_l02Nodes.T11 : Bool × List (List Nat × List Nat) := (true, [([], []), ([0], [0]), ([], []), ([1, 2], [1, 2]), ([3], [3]), ([], []), ([5], [5]), ([4, 6], [4, 6]), ([7], [7]), ([8], [8]), ([8], [8]), ([10, 8], [8, 10]), ([8], [8]), ([11, 12, 8], [8, 11, 12]), ([13, 8], [8, 13]), ([9, 14, 8, 8], [8, 9, 14]), ([8, 15], [8, 15]), ([16, 15], [16]), ([17], [17]), ([17], [17]), ([19, 17], [17, 19]), ([17], [17]), ([20, 21, 17], [17, 20, 21]), ([22, 17], [17, 22]), ([18, 23, 17, 17], [17, 18, 23]), ([24, 17], [17, 24]), ([17, 25], [17, 25])])
def spec_l02Nodes.B11 : List Nat := [0, 1, 0, 7, 15, 0, 32, 127, 255, 511, 511, 1535, 511, 7679, 15871, 32767, 65535, 131071, 262143, 262143, 786431, 262143, 3932159, 8126463, 16777215, 33554431, 67108863]
theorem spec_l02Nodes.tab11 : rtab .any (opsOf Tryz.f169 11) = spec_l02Nodes.T11 := by kernel_rfl
theorem spec_l02Nodes.bits11 : waitsOk spec_l02Nodes.T11.2 spec_l02Nodes.B11 = true := by kernel_rfl
theorem spec_l02Nodes.calls (k : Nat) (a0_0 : Int) (a0_1 : Int) (A0_2 : Option Addr) (c0_2 : Nat) (l0_2 : List (S113)) (r : Bool) (w : World) (hr0_2 : Kd.C k113 w A0_2 l0_2.length l0_2) (hc0_2 : l0_2.length ≤ c0_2) (h : spec_l02Nodes.f k a0_0 a0_1 l0_2 = some r) :
  Calls Tryz.prog 169 #[.agg #[.int .i64 a0_0, .int .i64 a0_1, .slice A0_2 l0_2.length c0_2]] w fun e w' => e = .returned (.bool r) ∧ Below w.heap.size w w' := by
 have hu35 := Tryz.underlying35
 have hu113 := Tryz.underlying113
 have HR0_2 := Aside0.mk hr0_2
 have HC0_2 := Aside0.mk hc0_2
 clear hr0_2 hc0_2
 have HB := Aside0.mk (Below.refl w.heap.size w)
 have H : (spec_l02Nodes.l0 k (([] : List Int)) 0 a0_0 a0_1 l0_2) = some r := h
 clear h
 obtain ⟨y169, hy169⟩ : ∃ y_ : List Int, y_ = (([] : List Int)) := ⟨_, rfl⟩
 replace H : (spec_l02Nodes.l0 k y169 0 a0_0 a0_1 l0_2) = some r := by first | (rw [hy169]; with_reducible exact H) | (have H2_ := (Option.bind_some _ _).symm.trans H; rw [hy169]; with_reducible exact H2_) | (have H2_ := (Option.bind_some _ _).symm.trans H; with_reducible exact H2_) | with_reducible exact H | (rw [hy169]; exact H) | exact H
 have Ny169 := Aside0.mk hy169
 clear hy169
 have H' := Aside0.mk H
 clear H
 go_enter Tryz.func169, Tryz.ntmps169
 go_wp2_with (first | ((with_reducible refine gate_dst (N := 1) rfl ?_); refine Xbox 1 #[.int .i64 a0_0, .int .i64 a0_1, .slice A0_2 l0_2.length c0_2] 35 ?_; intro gb168 hg w2 hbox hb; have BK168 := Aside0.mk (hbox); have GE168 := Xge hg Xi; replace HB := Aside0.mk (below_step Xi hb); clear hb hbox hg) | ((with_reducible refine gate_dst (N := 7) rfl ?_); refine Kd.R_lit (Kd.int .i64) _ 3 ?hg (N := 7) ?hd (xs := ([] : List Int)) (inner := []) (ok := fun _ => True) (okp := fun _ => True) ?hr ?hp (fun _ hk => hk) trivial (Below.refl _ _) (Nat.le_refl _) (by simp) ?_; (case hd => rfl); (case hg => rfl); (case hr => first | (go_simp; done) | (go_simp; rfl)); (case hp => exact (Reps.none _ _)); intro v170 w3 ho4 hb hg_ hnew_; clear hg_ hnew_; (first | rw [← Ny169.out] at ho4 | (simp only [Int.reduceToNat] at ho4; rw [← Ny169.out] at ho4)); have HO171 := Aside0.mk (Kd.R_lower ho4 (below_size Xi)); replace BK168 := Xbb BK168 hb; replace HB := Aside0.mk (below_step Xi hb); clear hb ho4))
 go_loopg [3, 4] k (fun kq v3 v4 w' => ∃ (x3_1 : List Int) (x4_1 : Int), v4 = .int .i64 x4_1 ∧ Aside0 (spec_l02Nodes.l0 kq x3_1 x4_1 a0_0 a0_1 l0_2 = some r) ∧ Aside0 (kq ≤ k) ∧ Aside0 (Kd.R (Kd.int .i64) 3 w' w.heap.size (fun _ => True) v3 x3_1) ∧ Aside0 (w'.heap[gb168]? = some (.cells #[.int .i64 a0_0, .int .i64 a0_1, (.slice A0_2 l0_2.length c0_2)] 35 (0, 0))) ∧ Aside0 (Below w.heap.size w w'))
 case atStart => exact ⟨(y169), (0), Xr, H', Xkr, (Xp' HO171), (Xp BK168), ⟨Xi⟩⟩
 clear H'
 obtain ⟨x3_1, x4_1, rfl, HA, HK1, HO_3, BK168, HB⟩ := hrel
 cases gk with | zero => cases HA.out | succ k1 => ?_
 have H := HA.out
 clear HA
 simp only [spec_l02Nodes.l0] at H
 obtain ⟨c5b0, H⟩ | ⟨c5b0, H⟩ := Xit H
 ·obtain ⟨c6b0, H⟩ := Xid H
  have HC7 := Aside0.mk H
  clear H
  obtain ⟨hcz8_0, hcz8_1, hcz8_2⟩ := Xc3 BK168
  obtain ⟨hfz8_0, hfz8_1, hfz8_2⟩ := Xf3 BK168
  obtain ⟨ad173, A173_4, c173_4, e173, p173, q173, hx173_0, hx173_1, hx173_2, hx173_3, hx173_4, HC173_4, HR173_4⟩ := at_B113 HR0_2 x4_1 Xa Xa HB
  cases e173
  go_upto_region 6 with (first | ((with_reducible refine gate_dst (N := 5) rfl ?_); refine Xbox 5 #[.int .i64 0, .int .i64 0, .int .i64 0, .string (⟨#[]⟩ : ByteArray), .slice none 0 0] 113 ?_; intro gb174 hg w9 hbox hb; replace HO_3 := Aside0.mk (Kd.R_below (Xq HO_3) hb); have BK174 := Aside0.mk (hbox); have GE174 := Xge hg Xi; replace HB := Aside0.mk (below_step Xi hb); have NB168_174 := Xnb hg BK168; have NB174_168 := Xns NB168_174; replace BK168 := Xbb BK168 hb; clear hb hbox hg; have hnb10 := NB174_168.out; have hnc10 := NB168_174.out; obtain ⟨hcz11_0, hcz11_1, hcz11_2, hcz11_3, hcz11_4⟩ := Xc5 BK174; obtain ⟨hfz11_0, hfz11_1, hfz11_2, hfz11_3, hfz11_4⟩ := Xf5 BK174) | ((with_reducible refine gate_store (t := 113) (p := 5) rfl ?_); refine store_event (t := 113) (p := 5) (v := ?vo_w12) (w1 := (((((w9.setCell ⟨gb174, 0, none⟩ (.int .i64 ((rd_T113 l0_2 x4_1).f0))).setCell ⟨gb174, 1, none⟩ (.int .i64 ((rd_T113 l0_2 x4_1).f1))).setCell ⟨gb174, 2, none⟩ (.int .i64 ((rd_T113 l0_2 x4_1).f2))).setCell ⟨gb174, 3, none⟩ (.string ((rd_T113 l0_2 x4_1).f3))).setCell ⟨gb174, 4, none⟩ (.slice A173_4 ((rd_T113 l0_2 x4_1).f4).length c173_4))) ?hg ?ho ?hn ?hr ?_; (case ho => rfl); (case hg => rfl); (case hn => rfl); (case hr => first | (go_simp; done) | (go_simp; rfl)); intro w12 hw; have n0_ : Aside0 (Kd.R (Kd.int .i64) 3 w12 w.heap.size (fun _ => True) u3 x3_1) := ⟨(by rw [hw]; exact (by (with_reducible repeat (first | apply Kd.R_alloc | apply Kd.R_drewN | apply Kd.R_drew)); exact Kd.R_mono (Kd.R_far (p := ⟨gb174, 4, none⟩) (Kd.R_far (p := ⟨gb174, 3, none⟩) (Kd.R_far (p := ⟨gb174, 2, none⟩) (Kd.R_far (p := ⟨gb174, 1, none⟩) (Kd.R_far (p := ⟨gb174, 0, none⟩) (Kd.R_types HO_3.out BK174.out (by decide)) (fun _ hk => hk.2) (.int .i64 ((rd_T113 l0_2 x4_1).f0))) (fun _ hk => hk.2) (.int .i64 ((rd_T113 l0_2 x4_1).f1))) (fun _ hk => hk.2) (.int .i64 ((rd_T113 l0_2 x4_1).f2))) (fun _ hk => hk.2) (.string ((rd_T113 l0_2 x4_1).f3))) (fun _ hk => hk.2) (.slice A173_4 ((rd_T113 l0_2 x4_1).f4).length c173_4)) (fun _ hk => trivial)))⟩; have n1_ : Aside0 (w12.heap[gb168]? = some (.cells #[.int .i64 a0_0, .int .i64 a0_1, .slice (some ad173) l0_2.length c0_2] 35 (0, 0))) := ⟨(by rw [hw]; exact (by (with_reducible repeat (first | refine blk_drewN ?_ _ | refine blk_drew ?_ | refine blk_alloc ?_ _)); refine blk_far ?_ NB168_174.out _; (with_reducible repeat (first | refine blk_drewN ?_ _ | refine blk_drew ?_ | refine blk_alloc ?_ _)); refine blk_far ?_ NB168_174.out _; (with_reducible repeat (first | refine blk_drewN ?_ _ | refine blk_drew ?_ | refine blk_alloc ?_ _)); refine blk_far ?_ NB168_174.out _; (with_reducible repeat (first | refine blk_drewN ?_ _ | refine blk_drew ?_ | refine blk_alloc ?_ _)); refine blk_far ?_ NB168_174.out _; (with_reducible repeat (first | refine blk_drewN ?_ _ | refine blk_drew ?_ | refine blk_alloc ?_ _)); refine blk_far ?_ NB168_174.out _; (with_reducible repeat (first | refine blk_drewN ?_ _ | refine blk_drew ?_ | refine blk_alloc ?_ _)); exact BK168.out))⟩; have n2_ : Aside0 (w12.heap[gb174]? = some (.cells #[.int .i64 ((rd_T113 l0_2 x4_1).f0), .int .i64 ((rd_T113 l0_2 x4_1).f1), .int .i64 ((rd_T113 l0_2 x4_1).f2), .string ((rd_T113 l0_2 x4_1).f3), .slice A173_4 ((rd_T113 l0_2 x4_1).f4).length c173_4] 113 (0, 0))) := ⟨(by rw [hw]; exact (by (with_reducible repeat (first | refine blk_drewN ?_ _ | refine blk_drew ?_ | refine blk_alloc ?_ _)); refine blk_put (cs := #[.int .i64 ((rd_T113 l0_2 x4_1).f0), .int .i64 ((rd_T113 l0_2 x4_1).f1), .int .i64 ((rd_T113 l0_2 x4_1).f2), .string ((rd_T113 l0_2 x4_1).f3), .slice none 0 0]) ?_ 4 _ rfl; (with_reducible repeat (first | refine blk_drewN ?_ _ | refine blk_drew ?_ | refine blk_alloc ?_ _)); refine blk_put (cs := #[.int .i64 ((rd_T113 l0_2 x4_1).f0), .int .i64 ((rd_T113 l0_2 x4_1).f1), .int .i64 ((rd_T113 l0_2 x4_1).f2), .string (⟨#[]⟩ : ByteArray), .slice none 0 0]) ?_ 3 _ rfl; (with_reducible repeat (first | refine blk_drewN ?_ _ | refine blk_drew ?_ | refine blk_alloc ?_ _)); refine blk_put (cs := #[.int .i64 ((rd_T113 l0_2 x4_1).f0), .int .i64 ((rd_T113 l0_2 x4_1).f1), .int .i64 0, .string (⟨#[]⟩ : ByteArray), .slice none 0 0]) ?_ 2 _ rfl; (with_reducible repeat (first | refine blk_drewN ?_ _ | refine blk_drew ?_ | refine blk_alloc ?_ _)); refine blk_put (cs := #[.int .i64 ((rd_T113 l0_2 x4_1).f0), .int .i64 0, .int .i64 0, .string (⟨#[]⟩ : ByteArray), .slice none 0 0]) ?_ 1 _ rfl; (with_reducible repeat (first | refine blk_drewN ?_ _ | refine blk_drew ?_ | refine blk_alloc ?_ _)); refine blk_put (cs := #[.int .i64 0, .int .i64 0, .int .i64 0, .string (⟨#[]⟩ : ByteArray), .slice none 0 0]) ?_ 0 _ rfl; (with_reducible repeat (first | refine blk_drewN ?_ _ | refine blk_drew ?_ | refine blk_alloc ?_ _)); exact BK174.out))⟩; have n3_ : Aside0 (Below w.heap.size w w12) := ⟨(by rw [hw]; exact Xi)⟩; clear hw; clear HO_3; clear BK168; clear BK174; clear HB; have HO_3 := n0_; have BK168 := n1_; have BK174 := n2_; have HB := n3_; clear n0_ n1_ n2_ n3_))
  (try simp only [XW.q0, XW.q1, XW.q2])
  go_cut [40] (fun v40 wc => ∃ (kq : Nat) (x40_6 : Bool), v40 = .bool x40_6 ∧ Aside0 (spec_l02Nodes.j1 kq x3_1 x4_1 x40_6 a0_0 a0_1 l0_2 ((rd_T113 l0_2 x4_1).f0) ((rd_T113 l0_2 x4_1).f1) ((rd_T113 l0_2 x4_1).f2) ((rd_T113 l0_2 x4_1).f3) ((rd_T113 l0_2 x4_1).f4) = some r) ∧ Aside0 (kq ≤ k1) ∧ Aside0 (Kd.R (Kd.int .i64) 3 wc w.heap.size (fun _ => True) u3 x3_1) ∧ Aside0 (wc.heap[gb168]? = some (.cells #[.int .i64 a0_0, .int .i64 a0_1, (.slice (some ad173) l0_2.length c0_2)] 35 (0, 0))) ∧ Aside0 (wc.heap[gb174]? = some (.cells #[.int .i64 ((rd_T113 l0_2 x4_1).f0), .int .i64 ((rd_T113 l0_2 x4_1).f1), .int .i64 ((rd_T113 l0_2 x4_1).f2), .string ((rd_T113 l0_2 x4_1).f3), (.slice A173_4 ((rd_T113 l0_2 x4_1).f4).length c173_4)] 113 (0, 0))) ∧ Aside0 (Below w.heap.size w wc))
  case first =>
   have H := HC7.out
   clear HC7
   obtain ⟨t175, A13, H⟩ := Xbi H
   try dsimp only at H
   by_cases c14 : t175 = true
   ·subst c14
    try rw [if_pos rfl] at H
    obtain ⟨c15, H⟩ | ⟨c15, H⟩ := Xiu H
    ·have c15b0 : decide (0 < x4_1) = true := decide_eq_true c15
     clear c15
     (first | rw [c15b0] | (simp only [i64_w, i32_w]; rw [c15b0]) | skip)
     obtain ⟨ji16, hji16⟩ : ∃ j_ : Int, (wrap64 (x4_1 - 1)) = j_ := ⟨_, rfl⟩
     replace H : (if 0 ≤ (ji16) then (if (ji16) < (l0_2.length : Int) then (spec_l02Nodes.j1 k1 x3_1 x4_1 (decide (((rd_T113 l0_2 x4_1).f0) ≤ ((rd_T113 l0_2 (ji16)).f0))) a0_0 a0_1 l0_2 ((rd_T113 l0_2 x4_1).f0) ((rd_T113 l0_2 x4_1).f1) ((rd_T113 l0_2 x4_1).f2) ((rd_T113 l0_2 x4_1).f3) ((rd_T113 l0_2 x4_1).f4)) else (none)) else (none)) = some r := by first | (rw [hji16] at H; exact H) | (simp only [hji16] at H ⊢; exact H)
     (try rw [hji16] at A13)
     have hji16w : (IntKind.i64.wrap (x4_1 - 1)) = ji16 := (i64_w _).trans hji16
     obtain ⟨c17b0, H⟩ := Xid H
     obtain ⟨c18b0, H⟩ := Xid H
     have H' := Aside0.mk H
     clear H
     try go_wp2_with (fail)
     replace HO_3 := Aside0.mk (Kd.R_drew HO_3.out)
     replace BK168 := Aside0.mk (blk_drew BK168.out)
     replace BK174 := Aside0.mk (blk_drew BK174.out)
     replace HB := Aside0.mk (below_drew1 HB.out)
     have p176 : 0 ≤ ((ji16) : Int) := of_decide_eq_true Xa
     have q176 : (ji16) < (l0_2.length : Int) := of_decide_eq_true Xa
     obtain ⟨ad176, A176_4, c176_4, e176, hx176_0, hx176_1, hx176_2, hx176_3, hx176_4, hl176_4, hi176_4⟩ := at_T113 HR0_2.out (ji16) p176 q176
     have hw176_4 := hx176_4
     have hw176_3 := hx176_3
     have hw176_2 := hx176_2
     have hw176_1 := hx176_1
     have hw176_0 := hx176_0
     obtain rfl : ad173 = ad176 := (by injection e176)
     replace hx176_0 := Xm HB hx176_0
     replace hx176_1 := Xm HB hx176_1
     replace hx176_2 := Xm HB hx176_2
     replace hx176_3 := Xm HB hx176_3
     replace hx176_4 := Xm HB hx176_4
     have HR176_4 := Aside0.mk hi176_4
     have HC176_4 := Aside0.mk hl176_4
     clear hi176_4 hl176_4
     replace p176 := eq_true p176
     replace q176 := eq_true q176
     refine start_ (n := 21) (S := fun w' => w'.cell? ⟨gb174, 0, none⟩ = some (.int .i64 ((rd_T113 l0_2 x4_1).f0)) ∧ w'.cell? ⟨gb174, 1, none⟩ = some (.int .i64 ((rd_T113 l0_2 x4_1).f1)) ∧ w'.cell? ⟨gb174, 2, none⟩ = some (.int .i64 ((rd_T113 l0_2 x4_1).f2)) ∧ w'.cell? ⟨gb174, 3, none⟩ = some (.string ((rd_T113 l0_2 x4_1).f3)) ∧ w'.cell? ⟨gb174, 4, none⟩ = some (.slice A173_4 ((rd_T113 l0_2 x4_1).f4).length c173_4) ∧ w'.cell? ⟨gb168, 0, none⟩ = some (.int .i64 a0_0) ∧ w'.cell? ⟨gb168, 1, none⟩ = some (.int .i64 a0_1) ∧ w'.cell? ⟨gb168, 2, none⟩ = some (.slice (some ad173) l0_2.length c0_2) ∧ w'.cell? (ad173.add (((ji16)).toNat * 5)) = some (.int .i64 ((rd_T113 l0_2 (ji16)).f0)) ∧ w'.cell? ⟨(ad173.add (((ji16)).toNat * 5)).block, (ad173.add (((ji16)).toNat * 5)).off + 1, none⟩ = some (.int .i64 ((rd_T113 l0_2 (ji16)).f1)) ∧ w'.cell? ⟨(ad173.add (((ji16)).toNat * 5)).block, (ad173.add (((ji16)).toNat * 5)).off + 2, none⟩ = some (.int .i64 ((rd_T113 l0_2 (ji16)).f2)) ∧ w'.cell? ⟨(ad173.add (((ji16)).toNat * 5)).block, (ad173.add (((ji16)).toNat * 5)).off + 3, none⟩ = some (.string ((rd_T113 l0_2 (ji16)).f3)) ∧ w'.cell? ⟨(ad173.add (((ji16)).toNat * 5)).block, (ad173.add (((ji16)).toNat * 5)).off + 4, none⟩ = some (.slice A176_4 ((rd_T113 l0_2 (ji16)).f4).length c176_4)) (ds := []) #[false, false, false, false, false, false, false, false, false, false, false, false, false, false, false, false, false, false, false, false, false] (by kernel_rfl) rfl rfl ⟨(blk_cell BK174.out 0).trans rfl, (blk_cell BK174.out 1).trans rfl, (blk_cell BK174.out 2).trans rfl, (blk_cell BK174.out 3).trans rfl, (blk_cell BK174.out 4).trans rfl, (blk_cell BK168.out 0).trans rfl, (blk_cell BK168.out 1).trans rfl, (blk_cell BK168.out 2).trans rfl, Xn hw176_0, Xn hw176_1, Xn hw176_2, Xn hw176_3, Xn hw176_4⟩ (fun hHeld => ?_); refine with_tabW spec_l02Nodes.tab6 spec_l02Nodes.bits6 (fun HT_ HW_ => ?_)
     generalize w12.drew = w19 at HO_3 BK168 BK174 HB HR176_4 hx176_0 hx176_1 hx176_2 hx176_3 hx176_4 hHeld ⊢
     refine Xpu 1 21 (XW.bs 21 2) HT_.out ?_
     refine Xta 0 20 (XW.bs 21 3) HT_.out HW_.out hHeld ?_
     refine Xta 2 22 (XW.bs 21 7) HT_.out HW_.out hHeld ?_
     refine one_ (i := 3) (N := some 23) (XW.bs 21 15) rfl rfl (one_of HT_.out (by kernel_rfl)) (by decide) (fun K hK => ?_)
     refine goes_ Tryz.func188 (by kernel_rfl) rfl #[.agg #[.int .i64 ((rd_T113 l0_2 x4_1).f0), .int .i64 ((rd_T113 l0_2 x4_1).f1), .int .i64 ((rd_T113 l0_2 x4_1).f2), .string ((rd_T113 l0_2 x4_1).f3), .slice A173_4 ((rd_T113 l0_2 x4_1).f4).length c173_4], .int .i64 a0_1] (by rfl) rfl rfl (by (try simp only [List.map_toArray, List.map_cons, List.map_nil]); first | done | rfl | (simp only [List.length_drop, List.length_take]; rfl)) ?_
     with_reducible refine (spec_l02Node.calls ((rd_T113 l0_2 x4_1).f0) ((rd_T113 l0_2 x4_1).f1) ((rd_T113 l0_2 x4_1).f2) ((rd_T113 l0_2 x4_1).f3) _ _ ((rd_T113 l0_2 x4_1).f4) a0_1 true _ ?side1 ?side2 A13.out).mono ?_
     (case side1 => exact Xc HR173_4)
     (case side2 => exact HC173_4.out)
     rintro e w20 ⟨rfl, hb⟩
     refine ⟨_, rfl, ?_⟩
     replace HO_3 := Aside0.mk (Kd.R_below (Xq HO_3) hb)
     replace BK168 := Xbb BK168 hb
     replace BK174 := Xbb BK174 hb
     replace HB := Aside0.mk (below_step Xi hb)
     try clear hb
     try clear hb2
     try clear hk
     try clear hi
     refine hK.out _ _ ⟨(blk_cell BK174.out 0).trans rfl, (blk_cell BK174.out 1).trans rfl, (blk_cell BK174.out 2).trans rfl, (blk_cell BK174.out 3).trans rfl, (blk_cell BK174.out 4).trans rfl, (blk_cell BK168.out 0).trans rfl, (blk_cell BK168.out 1).trans rfl, (blk_cell BK168.out 2).trans rfl, Xn hw176_0, Xn hw176_1, Xn hw176_2, Xn hw176_3, Xn hw176_4⟩ (fun hHeld => ?_)
     clear hK K
     refine Xno ?_
     refine Xpu 4 24 (XW.bs 21 31) HT_.out ?_
     refine Xpu 5 25 (XW.bs 21 63) HT_.out ?_
     refine Xpu 6 26 (XW.bs 21 127) HT_.out ?_
     refine Xpu 7 27 (XW.bs 21 255) HT_.out ?_
     refine Xpu 8 28 (XW.bs 21 511) HT_.out ?_
     refine Xpu 9 29 (XW.bs 21 1023) HT_.out ?_
     refine Xpu 11 31 (XW.bs 21 3071) HT_.out ?_
     refine Xpu 13 33 (XW.bs 21 11263) HT_.out ?_
     refine Xpu 14 34 (XW.bs 21 27647) HT_.out ?_
     refine Xta 10 30 (XW.bs 21 28671) HT_.out HW_.out hHeld ?_
     refine Xta 12 32 (XW.bs 21 32767) HT_.out HW_.out hHeld ?_
     refine Xpu 15 35 (XW.bs 21 65535) HT_.out ?_
     refine Xpu 16 36 (XW.bs 21 131071) HT_.out ?_
     refine Xta 17 37 (XW.bs 21 262143) HT_.out HW_.out hHeld ?_
     refine Xpu 18 38 (XW.bs 21 524287) HT_.out ?_
     refine Xpu 19 39 (XW.bs 21 1048575) HT_.out ?_
     refine Xpu 20 40 (XW.bs 21 2097151) HT_.out ?_
     refine done_ (done_of HT_.out (by kernel_rfl)) ?_
     try go_wp2_with (fail)
     go_meet
     case rel => exact ⟨_, (decide (((rd_T113 l0_2 x4_1).f0) ≤ ((rd_T113 l0_2 (ji16)).f0))), (by first | rfl | (simp; done) | (simp only [← hji16] <;> (first | rfl | simp)) | (simp [*]; done)), H', ⟨by have := HK1.out; first | omega | exact Nat.le_refl _⟩, (Xp' HO_3), (Xp BK168), (Xp BK174), ⟨Xi⟩⟩
    have c15b0 : decide (0 < x4_1) = false := decide_eq_false c15
    clear c15
    (first | rw [c15b0] | (simp only [i64_w, i32_w]; rw [c15b0]) | skip)
    have H' := Aside0.mk H
    clear H
    try go_wp2_with (fail)
    replace HO_3 := Aside0.mk (Kd.R_drew HO_3.out)
    replace BK168 := Aside0.mk (blk_drew BK168.out)
    replace BK174 := Aside0.mk (blk_drew BK174.out)
    replace HB := Aside0.mk (below_drew1 HB.out)
    refine start_ (n := 21) (S := fun w' => w'.cell? ⟨gb174, 0, none⟩ = some (.int .i64 ((rd_T113 l0_2 x4_1).f0)) ∧ w'.cell? ⟨gb174, 1, none⟩ = some (.int .i64 ((rd_T113 l0_2 x4_1).f1)) ∧ w'.cell? ⟨gb174, 2, none⟩ = some (.int .i64 ((rd_T113 l0_2 x4_1).f2)) ∧ w'.cell? ⟨gb174, 3, none⟩ = some (.string ((rd_T113 l0_2 x4_1).f3)) ∧ w'.cell? ⟨gb174, 4, none⟩ = some (.slice A173_4 ((rd_T113 l0_2 x4_1).f4).length c173_4) ∧ w'.cell? ⟨gb168, 0, none⟩ = some (.int .i64 a0_0) ∧ w'.cell? ⟨gb168, 1, none⟩ = some (.int .i64 a0_1) ∧ w'.cell? ⟨gb168, 2, none⟩ = some (.slice (some ad173) l0_2.length c0_2)) (ds := []) #[false, false, false, false, false, false, false, false, false, false, false, false, false, false, false, false, false, false, false, false, false] (by kernel_rfl) rfl rfl ⟨(blk_cell BK174.out 0).trans rfl, (blk_cell BK174.out 1).trans rfl, (blk_cell BK174.out 2).trans rfl, (blk_cell BK174.out 3).trans rfl, (blk_cell BK174.out 4).trans rfl, (blk_cell BK168.out 0).trans rfl, (blk_cell BK168.out 1).trans rfl, (blk_cell BK168.out 2).trans rfl⟩ (fun hHeld => ?_); refine with_tabW spec_l02Nodes.tab6 spec_l02Nodes.bits6 (fun HT_ HW_ => ?_)
    generalize w12.drew = w21 at HO_3 BK168 BK174 HB hHeld ⊢
    refine Xpu 1 21 (XW.bs 21 2) HT_.out ?_
    refine Xta 0 20 (XW.bs 21 3) HT_.out HW_.out hHeld ?_
    refine Xta 2 22 (XW.bs 21 7) HT_.out HW_.out hHeld ?_
    refine one_ (i := 3) (N := some 23) (XW.bs 21 15) rfl rfl (one_of HT_.out (by kernel_rfl)) (by decide) (fun K hK => ?_)
    refine goes_ Tryz.func188 (by kernel_rfl) rfl #[.agg #[.int .i64 ((rd_T113 l0_2 x4_1).f0), .int .i64 ((rd_T113 l0_2 x4_1).f1), .int .i64 ((rd_T113 l0_2 x4_1).f2), .string ((rd_T113 l0_2 x4_1).f3), .slice A173_4 ((rd_T113 l0_2 x4_1).f4).length c173_4], .int .i64 a0_1] (by rfl) rfl rfl (by (try simp only [List.map_toArray, List.map_cons, List.map_nil]); first | done | rfl | (simp only [List.length_drop, List.length_take]; rfl)) ?_
    with_reducible refine (spec_l02Node.calls ((rd_T113 l0_2 x4_1).f0) ((rd_T113 l0_2 x4_1).f1) ((rd_T113 l0_2 x4_1).f2) ((rd_T113 l0_2 x4_1).f3) _ _ ((rd_T113 l0_2 x4_1).f4) a0_1 true _ ?side1 ?side2 A13.out).mono ?_
    (case side1 => exact Xc HR173_4)
    (case side2 => exact HC173_4.out)
    rintro e w22 ⟨rfl, hb⟩
    refine ⟨_, rfl, ?_⟩
    replace HO_3 := Aside0.mk (Kd.R_below (Xq HO_3) hb)
    replace BK168 := Xbb BK168 hb
    replace BK174 := Xbb BK174 hb
    replace HB := Aside0.mk (below_step Xi hb)
    try clear hb
    try clear hb2
    try clear hk
    try clear hi
    refine hK.out _ _ ⟨(blk_cell BK174.out 0).trans rfl, (blk_cell BK174.out 1).trans rfl, (blk_cell BK174.out 2).trans rfl, (blk_cell BK174.out 3).trans rfl, (blk_cell BK174.out 4).trans rfl, (blk_cell BK168.out 0).trans rfl, (blk_cell BK168.out 1).trans rfl, (blk_cell BK168.out 2).trans rfl⟩ (fun hHeld => ?_)
    clear hK K
    refine Xno ?_
    refine Xpu 4 24 (XW.bs 21 31) HT_.out ?_
    refine Xpu 5 25 (XW.bs 21 63) HT_.out ?_
    refine Xpu 6 26 (XW.bs 21 127) HT_.out ?_
    refine Xpu 7 27 (XW.bs 21 255) HT_.out ?_
    refine Xpu 8 28 (XW.bs 21 511) HT_.out ?_
    refine Xpn 9 29 (XW.bs 21 1023) HT_.out ?_
    refine Xpn 10 30 (XW.bs 21 2047) HT_.out ?_
    refine Xpn 11 31 (XW.bs 21 4095) HT_.out ?_
    refine Xpn 12 32 (XW.bs 21 8191) HT_.out ?_
    refine Xpn 13 33 (XW.bs 21 16383) HT_.out ?_
    refine Xpn 14 34 (XW.bs 21 32767) HT_.out ?_
    refine Xpn 15 35 (XW.bs 21 65535) HT_.out ?_
    refine Xpn 16 36 (XW.bs 21 131071) HT_.out ?_
    refine Xpn 17 37 (XW.bs 21 262143) HT_.out ?_
    refine Xpn 18 38 (XW.bs 21 524287) HT_.out ?_
    refine Xpu 19 39 (XW.bs 21 1048575) HT_.out ?_
    refine Xpu 20 40 (XW.bs 21 2097151) HT_.out ?_
    refine done_ (done_of HT_.out (by kernel_rfl)) ?_
    try go_wp2_with (fail)
    go_meet
    case rel => exact ⟨_, (false), Xr, H', ⟨by have := HK1.out; first | omega | exact Nat.le_refl _⟩, (Xp' HO_3), (Xp BK168), (Xp BK174), ⟨Xi⟩⟩
   replace c14 := Bool.eq_false_iff.mpr c14
   subst c14
   try rw [if_neg (show ¬ (false = true) by decide)] at H
   have H' := Aside0.mk H
   clear H
   try go_wp2_with (fail)
   replace HO_3 := Aside0.mk (Kd.R_drew HO_3.out)
   replace BK168 := Aside0.mk (blk_drew BK168.out)
   replace BK174 := Aside0.mk (blk_drew BK174.out)
   replace HB := Aside0.mk (below_drew1 HB.out)
   refine start_ (n := 21) (S := fun w' => w'.cell? ⟨gb174, 0, none⟩ = some (.int .i64 ((rd_T113 l0_2 x4_1).f0)) ∧ w'.cell? ⟨gb174, 1, none⟩ = some (.int .i64 ((rd_T113 l0_2 x4_1).f1)) ∧ w'.cell? ⟨gb174, 2, none⟩ = some (.int .i64 ((rd_T113 l0_2 x4_1).f2)) ∧ w'.cell? ⟨gb174, 3, none⟩ = some (.string ((rd_T113 l0_2 x4_1).f3)) ∧ w'.cell? ⟨gb174, 4, none⟩ = some (.slice A173_4 ((rd_T113 l0_2 x4_1).f4).length c173_4) ∧ w'.cell? ⟨gb168, 0, none⟩ = some (.int .i64 a0_0) ∧ w'.cell? ⟨gb168, 1, none⟩ = some (.int .i64 a0_1) ∧ w'.cell? ⟨gb168, 2, none⟩ = some (.slice (some ad173) l0_2.length c0_2)) (ds := []) #[false, false, false, false, false, false, false, false, false, false, false, false, false, false, false, false, false, false, false, false, false] (by kernel_rfl) rfl rfl ⟨(blk_cell BK174.out 0).trans rfl, (blk_cell BK174.out 1).trans rfl, (blk_cell BK174.out 2).trans rfl, (blk_cell BK174.out 3).trans rfl, (blk_cell BK174.out 4).trans rfl, (blk_cell BK168.out 0).trans rfl, (blk_cell BK168.out 1).trans rfl, (blk_cell BK168.out 2).trans rfl⟩ (fun hHeld => ?_); refine with_tabW spec_l02Nodes.tab6 spec_l02Nodes.bits6 (fun HT_ HW_ => ?_)
   generalize w12.drew = w23 at HO_3 BK168 BK174 HB hHeld ⊢
   refine Xpu 1 21 (XW.bs 21 2) HT_.out ?_
   refine Xta 0 20 (XW.bs 21 3) HT_.out HW_.out hHeld ?_
   refine Xta 2 22 (XW.bs 21 7) HT_.out HW_.out hHeld ?_
   refine one_ (i := 3) (N := some 23) (XW.bs 21 15) rfl rfl (one_of HT_.out (by kernel_rfl)) (by decide) (fun K hK => ?_)
   refine goes_ Tryz.func188 (by kernel_rfl) rfl #[.agg #[.int .i64 ((rd_T113 l0_2 x4_1).f0), .int .i64 ((rd_T113 l0_2 x4_1).f1), .int .i64 ((rd_T113 l0_2 x4_1).f2), .string ((rd_T113 l0_2 x4_1).f3), .slice A173_4 ((rd_T113 l0_2 x4_1).f4).length c173_4], .int .i64 a0_1] (by rfl) rfl rfl (by (try simp only [List.map_toArray, List.map_cons, List.map_nil]); first | done | rfl | (simp only [List.length_drop, List.length_take]; rfl)) ?_
   with_reducible refine (spec_l02Node.calls ((rd_T113 l0_2 x4_1).f0) ((rd_T113 l0_2 x4_1).f1) ((rd_T113 l0_2 x4_1).f2) ((rd_T113 l0_2 x4_1).f3) _ _ ((rd_T113 l0_2 x4_1).f4) a0_1 false _ ?side1 ?side2 A13.out).mono ?_
   (case side1 => exact Xc HR173_4)
   (case side2 => exact HC173_4.out)
   rintro e w24 ⟨rfl, hb⟩
   refine ⟨_, rfl, ?_⟩
   replace HO_3 := Aside0.mk (Kd.R_below (Xq HO_3) hb)
   replace BK168 := Xbb BK168 hb
   replace BK174 := Xbb BK174 hb
   replace HB := Aside0.mk (below_step Xi hb)
   try clear hb
   try clear hb2
   try clear hk
   try clear hi
   refine hK.out _ _ ⟨(blk_cell BK174.out 0).trans rfl, (blk_cell BK174.out 1).trans rfl, (blk_cell BK174.out 2).trans rfl, (blk_cell BK174.out 3).trans rfl, (blk_cell BK174.out 4).trans rfl, (blk_cell BK168.out 0).trans rfl, (blk_cell BK168.out 1).trans rfl, (blk_cell BK168.out 2).trans rfl⟩ (fun hHeld => ?_)
   clear hK K
   refine Xno ?_
   refine Xpu 4 24 (XW.bs 21 31) HT_.out ?_
   refine Xpu 5 25 (XW.bs 21 63) HT_.out ?_
   refine Xpn 6 26 (XW.bs 21 127) HT_.out ?_
   refine Xpn 7 27 (XW.bs 21 255) HT_.out ?_
   refine Xpn 8 28 (XW.bs 21 511) HT_.out ?_
   refine Xpn 9 29 (XW.bs 21 1023) HT_.out ?_
   refine Xpn 10 30 (XW.bs 21 2047) HT_.out ?_
   refine Xpn 11 31 (XW.bs 21 4095) HT_.out ?_
   refine Xpn 12 32 (XW.bs 21 8191) HT_.out ?_
   refine Xpn 13 33 (XW.bs 21 16383) HT_.out ?_
   refine Xpn 14 34 (XW.bs 21 32767) HT_.out ?_
   refine Xpn 15 35 (XW.bs 21 65535) HT_.out ?_
   refine Xpn 16 36 (XW.bs 21 131071) HT_.out ?_
   refine Xpn 17 37 (XW.bs 21 262143) HT_.out ?_
   refine Xpn 18 38 (XW.bs 21 524287) HT_.out ?_
   refine Xpn 19 39 (XW.bs 21 1048575) HT_.out ?_
   refine Xpu 20 40 (XW.bs 21 2097151) HT_.out ?_
   refine done_ (done_of HT_.out (by kernel_rfl)) ?_
   try go_wp2_with (fail)
   go_meet
   case rel => exact ⟨_, (true), Xr, H', ⟨by have := HK1.out; first | omega | exact Nat.le_refl _⟩, (Xp' HO_3), (Xp BK168), (Xp BK174), ⟨Xi⟩⟩
  clear HC7
  (try clear c5); (try clear c5b0); (try clear c6); (try clear c6b0); (try clear hcz11_0); (try clear hcz11_1); (try clear hcz11_2); (try clear hcz11_3); (try clear hcz11_4); (try clear hcz8_0); (try clear hcz8_1); (try clear hcz8_2); (try clear hfz11_0); (try clear hfz11_1); (try clear hfz11_2); (try clear hfz11_3); (try clear hfz11_4); (try clear hfz8_0); (try clear hfz8_1); (try clear hfz8_2); (try clear hx173_0); (try clear hx173_1); (try clear hx173_2); (try clear hx173_3); (try clear hx173_4); (try clear p173); (try clear q173)
  obtain ⟨kq, x40_6, rfl, HA, HJ6, HO_3, BK168, BK174, HB⟩ := hcut
  cases kq with | zero => cases HA.out | succ kj6 => ?_
  have H := HA.out
  clear HA
  simp only [spec_l02Nodes.j1] at H
  by_cases c25 : x40_6 = true
  ·subst c25
   try rw [if_pos rfl] at H
   obtain rfl := Option.some.inj H
   go_wp2
   go_ret
   exact ⟨Xe, Xi⟩
  replace c25 := Bool.eq_false_iff.mpr c25
  subst c25
  try rw [if_neg (show ¬ (false = true) by decide)] at H
  have H' := Aside0.mk H
  clear H
  go_wp2
  go_loopg [3, 6] kj6 (fun kq v3 v6 w' => ∃ (x3_3 : List Int) (x6_3 : Int), v6 = .int .i64 x6_3 ∧ Aside0 (spec_l02Nodes.l1 kq x3_3 x4_1 x6_3 a0_0 a0_1 l0_2 ((rd_T113 l0_2 x4_1).f0) ((rd_T113 l0_2 x4_1).f1) ((rd_T113 l0_2 x4_1).f2) ((rd_T113 l0_2 x4_1).f3) ((rd_T113 l0_2 x4_1).f4) = some r) ∧ Aside0 (kq ≤ kj6) ∧ Aside0 (Kd.R (Kd.int .i64) 3 w' w.heap.size (fun _ => True) v3 x3_3) ∧ Aside0 (w'.heap[gb168]? = some (.cells #[.int .i64 a0_0, .int .i64 a0_1, (.slice (some ad173) l0_2.length c0_2)] 35 (0, 0))) ∧ Aside0 (w'.heap[gb174]? = some (.cells #[.int .i64 ((rd_T113 l0_2 x4_1).f0), .int .i64 ((rd_T113 l0_2 x4_1).f1), .int .i64 ((rd_T113 l0_2 x4_1).f2), .string ((rd_T113 l0_2 x4_1).f3), (.slice A173_4 ((rd_T113 l0_2 x4_1).f4).length c173_4)] 113 (0, 0))) ∧ Aside0 (Below w.heap.size w w'))
  case atStart => exact ⟨(x3_1), (0), Xr, H', Xkr, (Xp' HO_3), (Xp BK168), (Xp BK174), ⟨Xi⟩⟩
  clear H'
  (try clear c5); (try clear c5b0); (try clear c6); (try clear c6b0); (try clear c25); (try clear hcz11_0); (try clear hcz11_1); (try clear hcz11_2); (try clear hcz11_3); (try clear hcz11_4); (try clear hcz8_0); (try clear hcz8_1); (try clear hcz8_2); (try clear hfz11_0); (try clear hfz11_1); (try clear hfz11_2); (try clear hfz11_3); (try clear hfz11_4); (try clear hfz8_0); (try clear hfz8_1); (try clear hfz8_2); (try clear hx173_0); (try clear hx173_1); (try clear hx173_2); (try clear hx173_3); (try clear hx173_4); (try clear p173); (try clear q173)
  obtain ⟨x3_3, x6_3, rfl, HA, HK3, HO_3, BK168, BK174, HB⟩ := hrel
  cases gk with | zero => cases HA.out | succ k3 => ?_
  have H := HA.out
  clear HA
  simp only [spec_l02Nodes.l1] at H
  obtain ⟨c26b0, H⟩ | ⟨c26b0, H⟩ := Xit H
  ·obtain ⟨c27b0, H⟩ := Xid H
   obtain ⟨c28, H⟩ | ⟨c28, H⟩ := Xiu H
   ·have c28b0 : ((rd ((rd_T113 l0_2 x4_1).f4) x6_3) == a0_0) = true := beq_iff_eq.mpr c28
    have c28b1 : ((rd ((rd_T113 l0_2 x4_1).f4) x6_3) != a0_0) = false := bne_eq_false_iff_eq.mpr c28
    clear c28
    obtain rfl := Option.some.inj H
    have hnb29 := NB174_168.out
    have hnc29 := NB168_174.out
    obtain ⟨hcz30_0, hcz30_1, hcz30_2, hcz30_3, hcz30_4⟩ := Xc5 BK174
    obtain ⟨hfz30_0, hfz30_1, hfz30_2, hfz30_3, hfz30_4⟩ := Xf5 BK174
    try go_wp2_with (fail)
    replace HO_3 := Aside0.mk (Kd.R_drew HO_3.out)
    replace BK168 := Aside0.mk (blk_drew BK168.out)
    replace BK174 := Aside0.mk (blk_drew BK174.out)
    replace HB := Aside0.mk (below_drew1 HB.out)
    have p177 : 0 ≤ (x6_3 : Int) := of_decide_eq_true Xa
    have q177 : x6_3 < (((rd_T113 l0_2 x4_1).f4).length : Int) := of_decide_eq_true Xa
    obtain ⟨ad177, e177, hx177_0⟩ := Kd.at_int HR173_4.out x6_3 p177 q177
    have hw177_0 := hx177_0
    cases e177
    replace hx177_0 := Xm HB hx177_0
    replace p177 := eq_true p177
    replace q177 := eq_true q177
    refine start_ (n := 27) (S := fun w' => w'.cell? ⟨gb174, 0, none⟩ = some (.int .i64 ((rd_T113 l0_2 x4_1).f0)) ∧ w'.cell? ⟨gb174, 1, none⟩ = some (.int .i64 ((rd_T113 l0_2 x4_1).f1)) ∧ w'.cell? ⟨gb174, 2, none⟩ = some (.int .i64 ((rd_T113 l0_2 x4_1).f2)) ∧ w'.cell? ⟨gb174, 3, none⟩ = some (.string ((rd_T113 l0_2 x4_1).f3)) ∧ w'.cell? ⟨gb174, 4, none⟩ = some (.slice (some ad177) ((rd_T113 l0_2 x4_1).f4).length c173_4) ∧ w'.cell? ⟨gb168, 0, none⟩ = some (.int .i64 a0_0) ∧ w'.cell? ⟨gb168, 1, none⟩ = some (.int .i64 a0_1) ∧ w'.cell? ⟨gb168, 2, none⟩ = some (.slice (some ad173) l0_2.length c0_2) ∧ w'.cell? (ad177.add (x6_3).toNat) = some (.int .i64 (rd ((rd_T113 l0_2 x4_1).f4) x6_3))) (ds := []) #[false, false, false, false, false, false, false, false, false, false, false, false, false, false, false, false, false, false, false, false, false, false, false, false, false, false, false] (by kernel_rfl) rfl rfl ⟨(blk_cell BK174.out 0).trans rfl, (blk_cell BK174.out 1).trans rfl, (blk_cell BK174.out 2).trans rfl, (blk_cell BK174.out 3).trans rfl, (blk_cell BK174.out 4).trans rfl, (blk_cell BK168.out 0).trans rfl, (blk_cell BK168.out 1).trans rfl, (blk_cell BK168.out 2).trans rfl, Xn hw177_0⟩ (fun hHeld => ?_); refine with_tabW spec_l02Nodes.tab11 spec_l02Nodes.bits11 (fun HT_ HW_ => ?_)
    generalize wr.drew = w31 at HO_3 BK168 BK174 HB hx177_0 hHeld ⊢
    refine Xpu 0 48 (XW.bs 27 1) HT_.out ?_
    refine Xpu 2 50 (XW.bs 27 5) HT_.out ?_
    refine Xpu 5 53 (XW.bs 27 37) HT_.out ?_
    refine Xta 1 49 (XW.bs 27 39) HT_.out HW_.out hHeld ?_
    refine Xpu 3 51 (XW.bs 27 47) HT_.out ?_
    refine Xta 4 52 (XW.bs 27 63) HT_.out HW_.out hHeld ?_
    refine Xta 6 54 (XW.bs 27 127) HT_.out HW_.out hHeld ?_
    refine Xpu 7 55 (XW.bs 27 255) HT_.out ?_
    refine Xpu 8 56 (XW.bs 27 511) HT_.out ?_
    refine Xpn 9 57 (XW.bs 27 1023) HT_.out ?_
    refine Xpn 10 58 (XW.bs 27 2047) HT_.out ?_
    refine Xpn 11 59 (XW.bs 27 4095) HT_.out ?_
    refine Xpn 12 60 (XW.bs 27 8191) HT_.out ?_
    refine Xpn 13 61 (XW.bs 27 16383) HT_.out ?_
    refine Xpn 14 62 (XW.bs 27 32767) HT_.out ?_
    refine Xpn 15 63 (XW.bs 27 65535) HT_.out ?_
    refine Xpu 16 64 (XW.bs 27 131071) HT_.out ?_
    refine Xpu 17 65 (XW.bs 27 262143) HT_.out ?_
    refine Xpn 18 66 (XW.bs 27 524287) HT_.out ?_
    refine Xpn 19 67 (XW.bs 27 1048575) HT_.out ?_
    refine Xpn 20 68 (XW.bs 27 2097151) HT_.out ?_
    refine Xpn 21 69 (XW.bs 27 4194303) HT_.out ?_
    refine Xpn 22 70 (XW.bs 27 8388607) HT_.out ?_
    refine Xpn 23 71 (XW.bs 27 16777215) HT_.out ?_
    refine Xpn 24 72 (XW.bs 27 33554431) HT_.out ?_
    refine Xpn 25 73 (XW.bs 27 67108863) HT_.out ?_
    refine Xpu 26 74 (XW.bs 27 134217727) HT_.out ?_
    refine done_ (done_of HT_.out (by kernel_rfl)) ?_
    try go_wp2_with (fail)
    go_ret
    exact ⟨Xe, Xi⟩
   have c28b0 : ((rd ((rd_T113 l0_2 x4_1).f4) x6_3) == a0_0) = false := beq_eq_false_iff_ne.mpr c28
   have c28b1 : ((rd ((rd_T113 l0_2 x4_1).f4) x6_3) != a0_0) = true := bne_iff_ne.mpr c28
   obtain ⟨t179, A32, H⟩ := Xbi H
   try dsimp only at H
   by_cases c33 : t179 = true
   ·subst c33
    try rw [if_pos rfl] at H
    obtain rfl := Option.some.inj H
    have hnb34 := NB174_168.out
    have hnc34 := NB168_174.out
    obtain ⟨hcz35_0, hcz35_1, hcz35_2, hcz35_3, hcz35_4⟩ := Xc5 BK174
    obtain ⟨hfz35_0, hfz35_1, hfz35_2, hfz35_3, hfz35_4⟩ := Xf5 BK174
    try go_wp2_with (fail)
    replace HO_3 := Aside0.mk (Kd.R_drew HO_3.out)
    replace BK168 := Aside0.mk (blk_drew BK168.out)
    replace BK174 := Aside0.mk (blk_drew BK174.out)
    replace HB := Aside0.mk (below_drew1 HB.out)
    have p177 : 0 ≤ (x6_3 : Int) := of_decide_eq_true Xa
    have q177 : x6_3 < (((rd_T113 l0_2 x4_1).f4).length : Int) := of_decide_eq_true Xa
    obtain ⟨ad177, e177, hx177_0⟩ := Kd.at_int HR173_4.out x6_3 p177 q177
    have hw177_0 := hx177_0
    cases e177
    replace hx177_0 := Xm HB hx177_0
    replace p177 := eq_true p177
    replace q177 := eq_true q177
    have p178 : 0 ≤ (x6_3 : Int) := of_decide_eq_true Xa
    have q178 : x6_3 < (((rd_T113 l0_2 x4_1).f4).length : Int) := of_decide_eq_true Xa
    obtain ⟨ad178, e178, hx178_0⟩ := Kd.at_int HR173_4.out x6_3 p178 q178
    have hw178_0 := hx178_0
    obtain rfl : ad177 = ad178 := (by injection e178)
    replace hx178_0 := Xm HB hx178_0
    replace p178 := eq_true p178
    replace q178 := eq_true q178
    obtain ⟨Ao37, co37, eo37⟩ := Kd.R_slice HO_3.out
    (first | subst eo37 | (injection eo37 with f1_ f2_ f3_; have f4_ := f1_.symm; have f5_ := f3_.symm; clear f1_ f2_ f3_; subst f4_; subst f5_))
    refine start_ (n := 27) (S := fun w' => w'.cell? ⟨gb174, 0, none⟩ = some (.int .i64 ((rd_T113 l0_2 x4_1).f0)) ∧ w'.cell? ⟨gb174, 1, none⟩ = some (.int .i64 ((rd_T113 l0_2 x4_1).f1)) ∧ w'.cell? ⟨gb174, 2, none⟩ = some (.int .i64 ((rd_T113 l0_2 x4_1).f2)) ∧ w'.cell? ⟨gb174, 3, none⟩ = some (.string ((rd_T113 l0_2 x4_1).f3)) ∧ w'.cell? ⟨gb174, 4, none⟩ = some (.slice (some ad177) ((rd_T113 l0_2 x4_1).f4).length c173_4) ∧ w'.cell? ⟨gb168, 0, none⟩ = some (.int .i64 a0_0) ∧ w'.cell? ⟨gb168, 1, none⟩ = some (.int .i64 a0_1) ∧ w'.cell? ⟨gb168, 2, none⟩ = some (.slice (some ad173) l0_2.length c0_2) ∧ w'.cell? (ad177.add (x6_3).toNat) = some (.int .i64 (rd ((rd_T113 l0_2 x4_1).f4) x6_3)) ∧ w'.cell? (ad177.add (x6_3).toNat) = some (.int .i64 (rd ((rd_T113 l0_2 x4_1).f4) x6_3))) (ds := []) #[false, false, false, false, false, false, false, false, false, false, false, false, false, false, false, false, false, false, false, false, false, false, false, false, false, false, false] (by kernel_rfl) rfl rfl ⟨(blk_cell BK174.out 0).trans rfl, (blk_cell BK174.out 1).trans rfl, (blk_cell BK174.out 2).trans rfl, (blk_cell BK174.out 3).trans rfl, (blk_cell BK174.out 4).trans rfl, (blk_cell BK168.out 0).trans rfl, (blk_cell BK168.out 1).trans rfl, (blk_cell BK168.out 2).trans rfl, Xn hw177_0, Xn hw178_0⟩ (fun hHeld => ?_); refine with_tabW spec_l02Nodes.tab11 spec_l02Nodes.bits11 (fun HT_ HW_ => ?_)
    generalize wr.drew = w36 at HO_3 BK168 BK174 HB hx177_0 hx178_0 hHeld ⊢
    refine Xpu 0 48 (XW.bs 27 1) HT_.out ?_
    refine Xpu 2 50 (XW.bs 27 5) HT_.out ?_
    refine Xpu 5 53 (XW.bs 27 37) HT_.out ?_
    refine Xta 1 49 (XW.bs 27 39) HT_.out HW_.out hHeld ?_
    refine Xpu 3 51 (XW.bs 27 47) HT_.out ?_
    refine Xta 4 52 (XW.bs 27 63) HT_.out HW_.out hHeld ?_
    refine Xta 6 54 (XW.bs 27 127) HT_.out HW_.out hHeld ?_
    refine Xpu 7 55 (XW.bs 27 255) HT_.out ?_
    refine Xpu 8 56 (XW.bs 27 511) HT_.out ?_
    refine Xpu 9 57 (XW.bs 27 1023) HT_.out ?_
    refine Xpu 10 58 (XW.bs 27 2047) HT_.out ?_
    refine Xpu 12 60 (XW.bs 27 6143) HT_.out ?_
    refine Xta 11 59 (XW.bs 27 8191) HT_.out HW_.out hHeld ?_
    refine Xpu 13 61 (XW.bs 27 16383) HT_.out ?_
    refine Xta 14 62 (XW.bs 27 32767) HT_.out HW_.out hHeld ?_
    refine one_ (i := 15) (N := some 63) (XW.bs 27 65535) rfl rfl (one_of HT_.out (by kernel_rfl)) (by decide) (fun K hK => ?_)
    refine goes_ Tryz.func104 (by kernel_rfl) rfl #[.slice Ao37 x3_3.length co37, .int .i64 (rd ((rd_T113 l0_2 x4_1).f4) x6_3)] (by rfl) rfl rfl (by (try simp only [List.map_toArray, List.map_cons, List.map_nil]); first | done | rfl | (simp only [List.length_drop, List.length_take]; rfl)) ?_
    with_reducible refine (spec_l02Has.calls k3 _ _ x3_3 (rd ((rd_T113 l0_2 x4_1).f4) x6_3) true _ ?side1 ?side2 A32.out).mono ?_
    (case side1 => repeat (first | exact (Kd.R_reads' HO_3.out).2.2 | (with_reducible first | refine Kd.C_alloc ?_ _ | refine Kd.C_drewN ?_ _ | refine Kd.C_drew ?_)))
    (case side2 => exact (Kd.R_reads' HO_3.out).2.1)
    rintro e w' ⟨rfl, ⟨nd, rfl⟩⟩
    refine ⟨_, rfl, ?_⟩
    refine hK.out _ _ ⟨(blk_cell BK174.out 0).trans rfl, (blk_cell BK174.out 1).trans rfl, (blk_cell BK174.out 2).trans rfl, (blk_cell BK174.out 3).trans rfl, (blk_cell BK174.out 4).trans rfl, (blk_cell BK168.out 0).trans rfl, (blk_cell BK168.out 1).trans rfl, (blk_cell BK168.out 2).trans rfl, Xn hw177_0, Xn hw178_0⟩ (fun hHeld => ?_)
    clear hK K
    refine Xno ?_
    refine Xpu 16 64 (XW.bs 27 131071) HT_.out ?_
    refine Xpu 17 65 (XW.bs 27 262143) HT_.out ?_
    refine Xpn 18 66 (XW.bs 27 524287) HT_.out ?_
    refine Xpn 19 67 (XW.bs 27 1048575) HT_.out ?_
    refine Xpn 20 68 (XW.bs 27 2097151) HT_.out ?_
    refine Xpn 21 69 (XW.bs 27 4194303) HT_.out ?_
    refine Xpn 22 70 (XW.bs 27 8388607) HT_.out ?_
    refine Xpn 23 71 (XW.bs 27 16777215) HT_.out ?_
    refine Xpn 24 72 (XW.bs 27 33554431) HT_.out ?_
    refine Xpn 25 73 (XW.bs 27 67108863) HT_.out ?_
    refine Xpu 26 74 (XW.bs 27 134217727) HT_.out ?_
    refine done_ (done_of HT_.out (by kernel_rfl)) ?_
    try go_wp2_with (fail)
    go_ret
    exact ⟨Xe, Xi⟩
   replace c33 := Bool.eq_false_iff.mpr c33
   subst c33
   try rw [if_neg (show ¬ (false = true) by decide)] at H
   obtain ⟨t181, A38, H⟩ := Xbi H
   try dsimp only at H
   have HC39 := Aside0.mk H
   clear H
   have hnb40 := NB174_168.out
   have hnc40 := NB168_174.out
   obtain ⟨hcz41_0, hcz41_1, hcz41_2, hcz41_3, hcz41_4⟩ := Xc5 BK174
   obtain ⟨hfz41_0, hfz41_1, hfz41_2, hfz41_3, hfz41_4⟩ := Xf5 BK174
   try go_wp2_with (fail)
   replace HO_3 := Aside0.mk (Kd.R_drew HO_3.out)
   replace BK168 := Aside0.mk (blk_drew BK168.out)
   replace BK174 := Aside0.mk (blk_drew BK174.out)
   replace HB := Aside0.mk (below_drew1 HB.out)
   have p177 : 0 ≤ (x6_3 : Int) := of_decide_eq_true Xa
   have q177 : x6_3 < (((rd_T113 l0_2 x4_1).f4).length : Int) := of_decide_eq_true Xa
   obtain ⟨ad177, e177, hx177_0⟩ := Kd.at_int HR173_4.out x6_3 p177 q177
   have hw177_0 := hx177_0
   cases e177
   replace hx177_0 := Xm HB hx177_0
   replace p177 := eq_true p177
   replace q177 := eq_true q177
   have p178 : 0 ≤ (x6_3 : Int) := of_decide_eq_true Xa
   have q178 : x6_3 < (((rd_T113 l0_2 x4_1).f4).length : Int) := of_decide_eq_true Xa
   obtain ⟨ad178, e178, hx178_0⟩ := Kd.at_int HR173_4.out x6_3 p178 q178
   have hw178_0 := hx178_0
   obtain rfl : ad177 = ad178 := (by injection e178)
   replace hx178_0 := Xm HB hx178_0
   replace p178 := eq_true p178
   replace q178 := eq_true q178
   obtain ⟨Ao43, co43, eo43⟩ := Kd.R_slice HO_3.out
   (first | subst eo43 | (injection eo43 with f1_ f2_ f3_; have f4_ := f1_.symm; have f5_ := f3_.symm; clear f1_ f2_ f3_; subst f4_; subst f5_))
   have p180 : 0 ≤ (x6_3 : Int) := of_decide_eq_true Xa
   have q180 : x6_3 < (((rd_T113 l0_2 x4_1).f4).length : Int) := of_decide_eq_true Xa
   obtain ⟨ad180, e180, hx180_0⟩ := Kd.at_int HR173_4.out x6_3 p180 q180
   have hw180_0 := hx180_0
   obtain rfl : ad177 = ad180 := (by injection e180)
   replace hx180_0 := Xm HB hx180_0
   replace p180 := eq_true p180
   replace q180 := eq_true q180
   refine start_ (n := 27) (S := fun w' => w'.cell? ⟨gb174, 0, none⟩ = some (.int .i64 ((rd_T113 l0_2 x4_1).f0)) ∧ w'.cell? ⟨gb174, 1, none⟩ = some (.int .i64 ((rd_T113 l0_2 x4_1).f1)) ∧ w'.cell? ⟨gb174, 2, none⟩ = some (.int .i64 ((rd_T113 l0_2 x4_1).f2)) ∧ w'.cell? ⟨gb174, 3, none⟩ = some (.string ((rd_T113 l0_2 x4_1).f3)) ∧ w'.cell? ⟨gb174, 4, none⟩ = some (.slice (some ad177) ((rd_T113 l0_2 x4_1).f4).length c173_4) ∧ w'.cell? ⟨gb168, 0, none⟩ = some (.int .i64 a0_0) ∧ w'.cell? ⟨gb168, 1, none⟩ = some (.int .i64 a0_1) ∧ w'.cell? ⟨gb168, 2, none⟩ = some (.slice (some ad173) l0_2.length c0_2) ∧ w'.cell? (ad177.add (x6_3).toNat) = some (.int .i64 (rd ((rd_T113 l0_2 x4_1).f4) x6_3)) ∧ w'.cell? (ad177.add (x6_3).toNat) = some (.int .i64 (rd ((rd_T113 l0_2 x4_1).f4) x6_3)) ∧ w'.cell? (ad177.add (x6_3).toNat) = some (.int .i64 (rd ((rd_T113 l0_2 x4_1).f4) x6_3))) (ds := []) #[false, false, false, false, false, false, false, false, false, false, false, false, false, false, false, false, false, false, false, false, false, false, false, false, false, false, false] (by kernel_rfl) rfl rfl ⟨(blk_cell BK174.out 0).trans rfl, (blk_cell BK174.out 1).trans rfl, (blk_cell BK174.out 2).trans rfl, (blk_cell BK174.out 3).trans rfl, (blk_cell BK174.out 4).trans rfl, (blk_cell BK168.out 0).trans rfl, (blk_cell BK168.out 1).trans rfl, (blk_cell BK168.out 2).trans rfl, Xn hw177_0, Xn hw178_0, Xn hw180_0⟩ (fun hHeld => ?_); refine with_tabW spec_l02Nodes.tab11 spec_l02Nodes.bits11 (fun HT_ HW_ => ?_)
   generalize wr.drew = w42 at HO_3 BK168 BK174 HB hx177_0 hx178_0 hx180_0 hHeld ⊢
   refine Xpu 0 48 (XW.bs 27 1) HT_.out ?_
   refine Xpu 2 50 (XW.bs 27 5) HT_.out ?_
   refine Xpu 5 53 (XW.bs 27 37) HT_.out ?_
   refine Xta 1 49 (XW.bs 27 39) HT_.out HW_.out hHeld ?_
   refine Xpu 3 51 (XW.bs 27 47) HT_.out ?_
   refine Xta 4 52 (XW.bs 27 63) HT_.out HW_.out hHeld ?_
   refine Xta 6 54 (XW.bs 27 127) HT_.out HW_.out hHeld ?_
   refine Xpu 7 55 (XW.bs 27 255) HT_.out ?_
   refine Xpu 8 56 (XW.bs 27 511) HT_.out ?_
   refine Xpu 9 57 (XW.bs 27 1023) HT_.out ?_
   refine Xpu 10 58 (XW.bs 27 2047) HT_.out ?_
   refine Xpu 12 60 (XW.bs 27 6143) HT_.out ?_
   refine Xta 11 59 (XW.bs 27 8191) HT_.out HW_.out hHeld ?_
   refine Xpu 13 61 (XW.bs 27 16383) HT_.out ?_
   refine Xta 14 62 (XW.bs 27 32767) HT_.out HW_.out hHeld ?_
   refine one_ (i := 15) (N := some 63) (XW.bs 27 65535) rfl rfl (one_of HT_.out (by kernel_rfl)) (by decide) (fun K hK => ?_)
   refine goes_ Tryz.func104 (by kernel_rfl) rfl #[.slice Ao43 x3_3.length co43, .int .i64 (rd ((rd_T113 l0_2 x4_1).f4) x6_3)] (by rfl) rfl rfl (by (try simp only [List.map_toArray, List.map_cons, List.map_nil]); first | done | rfl | (simp only [List.length_drop, List.length_take]; rfl)) ?_
   with_reducible refine (spec_l02Has.calls k3 _ _ x3_3 (rd ((rd_T113 l0_2 x4_1).f4) x6_3) false _ ?side1 ?side2 A32.out).mono ?_
   (case side1 => repeat (first | exact (Kd.R_reads' HO_3.out).2.2 | (with_reducible first | refine Kd.C_alloc ?_ _ | refine Kd.C_drewN ?_ _ | refine Kd.C_drew ?_)))
   (case side2 => exact (Kd.R_reads' HO_3.out).2.1)
   rintro e w' ⟨rfl, ⟨nd, rfl⟩⟩
   refine ⟨_, rfl, ?_⟩
   refine hK.out _ _ ⟨(blk_cell BK174.out 0).trans rfl, (blk_cell BK174.out 1).trans rfl, (blk_cell BK174.out 2).trans rfl, (blk_cell BK174.out 3).trans rfl, (blk_cell BK174.out 4).trans rfl, (blk_cell BK168.out 0).trans rfl, (blk_cell BK168.out 1).trans rfl, (blk_cell BK168.out 2).trans rfl, Xn hw177_0, Xn hw178_0, Xn hw180_0⟩ (fun hHeld => ?_)
   clear hK K
   refine Xno ?_
   refine Xpu 16 64 (XW.bs 27 131071) HT_.out ?_
   refine Xpu 17 65 (XW.bs 27 262143) HT_.out ?_
   refine Xpu 19 67 (XW.bs 27 786431) HT_.out ?_
   refine Xpu 21 69 (XW.bs 27 2883583) HT_.out ?_
   refine Xta 18 66 (XW.bs 27 3145727) HT_.out HW_.out hHeld ?_
   refine Xta 20 68 (XW.bs 27 4194303) HT_.out HW_.out hHeld ?_
   refine Xpu 22 70 (XW.bs 27 8388607) HT_.out ?_
   refine Xta 23 71 (XW.bs 27 16777215) HT_.out HW_.out hHeld ?_
   refine one_ (i := 24) (N := some 72) (XW.bs 27 33554431) rfl rfl (one_of HT_.out (by kernel_rfl)) (by decide) (fun K hK => ?_)
   refine goes_ Tryz.func89 (by kernel_rfl) rfl #[.agg #[.int .i64 a0_0, .int .i64 a0_1, .slice (some ad173) l0_2.length c0_2], .int .i64 (rd ((rd_T113 l0_2 x4_1).f4) x6_3)] (by rfl) rfl rfl (by (try simp only [List.map_toArray, List.map_cons, List.map_nil]); first | done | rfl | (simp only [List.length_drop, List.length_take]; rfl)) ?_
   with_reducible refine (spec_l02At.calls k3 a0_0 a0_1 _ _ l0_2 (rd ((rd_T113 l0_2 x4_1).f4) x6_3) t181 _ ?side1 ?side2 A38.out).mono ?_
   (case side1 => exact Xc HR0_2)
   (case side2 => exact HC0_2.out)
   rintro e w44 ⟨rfl, hb⟩
   refine ⟨_, rfl, ?_⟩
   replace HO_3 := Aside0.mk (Kd.R_below (Xq HO_3) hb)
   replace BK168 := Xbb BK168 hb
   replace BK174 := Xbb BK174 hb
   replace HB := Aside0.mk (below_step Xi hb)
   try clear hb
   try clear hb2
   try clear hk
   try clear hi
   refine hK.out _ _ ⟨(blk_cell BK174.out 0).trans rfl, (blk_cell BK174.out 1).trans rfl, (blk_cell BK174.out 2).trans rfl, (blk_cell BK174.out 3).trans rfl, (blk_cell BK174.out 4).trans rfl, (blk_cell BK168.out 0).trans rfl, (blk_cell BK168.out 1).trans rfl, (blk_cell BK168.out 2).trans rfl, Xn hw177_0, Xn hw178_0, Xn hw180_0⟩ (fun hHeld => ?_)
   clear hK K
   refine Xno ?_
   refine Xpu 25 73 (XW.bs 27 67108863) HT_.out ?_
   refine Xpu 26 74 (XW.bs 27 134217727) HT_.out ?_
   refine done_ (done_of HT_.out (by kernel_rfl)) ?_
   go_upto_if 74 with (fail)
   have H := HC39.out
   clear HC39
   obtain ⟨c45b0, H⟩ | ⟨c45b0, H⟩ := Xit H
   ·(first | rw [c45b0] | (simp only [i64_w, i32_w]; rw [c45b0]) | skip)
    obtain rfl := Option.some.inj H
    go_wp2
    go_ret
    exact ⟨Xe, Xi⟩
   (first | rw [c45b0] | (simp only [i64_w, i32_w]; rw [c45b0]) | skip)
   obtain ⟨c46, H⟩ := Xif H
   have LMc46 := Aside0.mk c46
   clear c46
   obtain ⟨y183, hy183⟩ : ∃ y_ : List Int, y_ = (x3_3 ++ [rd ((rd_T113 l0_2 x4_1).f4) x6_3]) := ⟨_, rfl⟩
   replace H : (spec_l02Nodes.l1 k3 y183 x4_1 (wrap64 (x6_3 + 1)) a0_0 a0_1 l0_2 ((rd_T113 l0_2 x4_1).f0) ((rd_T113 l0_2 x4_1).f1) ((rd_T113 l0_2 x4_1).f2) ((rd_T113 l0_2 x4_1).f3) ((rd_T113 l0_2 x4_1).f4)) = some r := by first | (rw [hy183]; with_reducible exact H) | (have H2_ := (Option.bind_some _ _).symm.trans H; rw [hy183]; with_reducible exact H2_) | (have H2_ := (Option.bind_some _ _).symm.trans H; with_reducible exact H2_) | with_reducible exact H | (rw [hy183]; exact H) | exact H
   have Ny183 := Aside0.mk hy183
   clear hy183
   have H' := Aside0.mk H
   clear H
   have hnb47 := NB174_168.out
   have hnc47 := NB168_174.out
   obtain ⟨hcz48_0, hcz48_1, hcz48_2, hcz48_3, hcz48_4⟩ := Xc5 BK174
   obtain ⟨hfz48_0, hfz48_1, hfz48_2, hfz48_3, hfz48_4⟩ := Xf5 BK174
   have p182 : 0 ≤ (x6_3 : Int) := of_decide_eq_true Xa
   have q182 : x6_3 < (((rd_T113 l0_2 x4_1).f4).length : Int) := of_decide_eq_true Xa
   obtain ⟨ad182, e182, hx182_0⟩ := Kd.at_int HR173_4.out x6_3 p182 q182
   obtain rfl : ad177 = ad182 := (by injection e182)
   replace hx182_0 := Xm HB hx182_0
   replace p182 := eq_true p182
   replace q182 := eq_true q182
   go_wp2_with (first | ((with_reducible refine gate_builtin (b := .append) (xs := #[.tmp 75, .tmp 81]) rfl ?_); at_builtin; refine Kd.R_append (Kd.int .i64) (w0 := w) w.heap.size rfl (.tmp 75) (.tmp 81) 30 3 (.int .i64 0) 8 rfl Tryz.underlying30 info3 rfl (by decide) (by omega) (.slice Ao43 x3_3.length co43) x3_3 (rd ((rd_T113 l0_2 x4_1).f4) x6_3) [.int .i64 (rd ((rd_T113 l0_2 x4_1).f4) x6_3)] (fun _ => True) (fun _ => False) rfl rfl ?aP (fun _ hk => hk.elim) ?aF ?aO ?aB ?aS ?aL ?_; (case aP => exact rfl); (case aB => exact Xi); (case aF => exact (fun _ _ => trivial)); (case aO => exact (Xq HO_3)); (case aS => exact (below_size Xi)); (case aL => have := LMc46.out; omega); intro v184 w49 ho hb hg hat; rw [← Ny183.out] at ho; replace BK168 := Aside0.mk (blk_grown (g := gb168) (o := .cells #[.int .i64 a0_0, .int .i64 a0_1, .slice (some ad173) l0_2.length c0_2] 35 (0, 0)) (Xq' BK168) hg (Kd.R_ne HO_3.out BK168.out (by decide))); replace BK174 := Aside0.mk (blk_grown (g := gb174) (o := .cells #[.int .i64 ((rd_T113 l0_2 x4_1).f0), .int .i64 ((rd_T113 l0_2 x4_1).f1), .int .i64 ((rd_T113 l0_2 x4_1).f2), .string ((rd_T113 l0_2 x4_1).f3), .slice (some ad177) ((rd_T113 l0_2 x4_1).f4).length c173_4] 113 (0, 0)) (Xq' BK174) hg (Kd.R_ne HO_3.out BK174.out (by decide))); replace HB := Aside0.mk (hb); have HO185 := Aside0.mk (ho); clear HO_3; clear ho hb hg hat))
   go_roundg k3
   case measure => have := HK1.out; have := HJ6.out; have := HK3.out; omega
   case rel => exact ⟨(y183), (wrap64 (x6_3 + 1)), Xr, H', ⟨by have := HK1.out; have := HJ6.out; have := HK3.out; omega⟩, (Xp' HO185), (Xp BK168), (Xp BK174), ⟨Xi⟩⟩
  have H' := Aside0.mk H
  clear H
  have hnb50 := NB174_168.out
  have hnc50 := NB168_174.out
  obtain ⟨hcz51_0, hcz51_1, hcz51_2, hcz51_3, hcz51_4⟩ := Xc5 BK174
  obtain ⟨hfz51_0, hfz51_1, hfz51_2, hfz51_3, hfz51_4⟩ := Xf5 BK174
  go_wp2
  go_roundg k3
  case measure => have := HK1.out; have := HJ6.out; have := HK3.out; omega
  case rel => exact ⟨(x3_3), (wrap64 (x4_1 + 1)), Xr, H', ⟨by have := HK1.out; have := HJ6.out; have := HK3.out; omega⟩, (Xp' HO_3), (Xp BK168), ⟨Xi⟩⟩
 obtain ⟨c52, H⟩ | ⟨c52, H⟩ := Xiu H
 ·have c52b0 : ((x3_1.length : Int) == (wrap64 ((l0_2.length : Int) - 1))) = true := beq_iff_eq.mpr c52
  have c52b1 : ((x3_1.length : Int) != (wrap64 ((l0_2.length : Int) - 1))) = false := bne_eq_false_iff_eq.mpr c52
  clear c52
  obtain ⟨t172, A53, H⟩ := Xbi H
  try dsimp only at H
  obtain rfl := Option.some.inj H
  obtain ⟨hcz54_0, hcz54_1, hcz54_2⟩ := Xc3 BK168
  obtain ⟨hfz54_0, hfz54_1, hfz54_2⟩ := Xf3 BK168
  obtain ⟨Ao55, co55, eo55⟩ := Kd.R_slice HO_3.out
  subst eo55
  go_wp2_with (first | (go_at_call 89; (with_reducible refine (spec_l02At.calls k1 a0_0 a0_1 _ _ l0_2 a0_0 t172 _ ?side1 ?side2 A53.out).mono ?_); (case side1 => exact Xc HR0_2); (case side2 => exact HC0_2.out); rintro e w56 ⟨rfl, hb⟩; replace HO_3 := Aside0.mk (Kd.R_below (Xq HO_3) hb); replace BK168 := Xbb BK168 hb; replace HB := Aside0.mk (below_step Xi hb); clear hb))
  go_ret
  exact ⟨Xe, Xi⟩
 have c52b0 : ((x3_1.length : Int) == (wrap64 ((l0_2.length : Int) - 1))) = false := beq_eq_false_iff_ne.mpr c52
 have c52b1 : ((x3_1.length : Int) != (wrap64 ((l0_2.length : Int) - 1))) = true := bne_iff_ne.mpr c52
 obtain rfl := Option.some.inj H
 obtain ⟨hcz57_0, hcz57_1, hcz57_2⟩ := Xc3 BK168
 obtain ⟨hfz57_0, hfz57_1, hfz57_2⟩ := Xf3 BK168
 obtain ⟨Ao58, co58, eo58⟩ := Kd.R_slice HO_3.out
 subst eo58
 go_wp2
 go_ret
 exact ⟨Xe, Xi⟩
def spec_l02Parent.l0 : Nat → Int → Int → Int → Int → List (S113) → Option (Int)
 | 0, _, _, _, _, _ => none
 | k + 1, x1, x5, x187000, x187001, x187002 => if x5 < (x187002.length : Int) then (if 0 ≤ x5 then ((spec_l02Has.f k ((rd_T113 x187002 x5).f4) x1).bind fun t188 => (if t188 = true then (some ((rd_T113 x187002 x5).f0)) else (spec_l02Parent.l0 k x1 (wrap64 (x5 + 1)) x187000 x187001 x187002))) else (none)) else (some 0)
def spec_l02Parent.f (k : Nat) (a0_0 : Int) (a0_1 : Int) (l0_2 : List (S113)) (a1 : Int) : Option (Int) := spec_l02Parent.l0 k a1 0 a0_0 a0_1 l0_2
theorem spec_l02Parent.calls (k : Nat) (a0_0 : Int) (a0_1 : Int) (A0_2 : Option Addr) (c0_2 : Nat) (l0_2 : List (S113)) (a1 : Int) (r : Int) (w : World) (hr0_2 : Kd.C k113 w A0_2 l0_2.length l0_2) (hc0_2 : l0_2.length ≤ c0_2) (h : spec_l02Parent.f k a0_0 a0_1 l0_2 a1 = some r) :
  Calls Tryz.prog 166 #[.agg #[.int .i64 a0_0, .int .i64 a0_1, .slice A0_2 l0_2.length c0_2], .int .i64 a1] w fun e w' => e = .returned (.int .i64 r) ∧ Below w.heap.size w w' := by
 have hu35 := Tryz.underlying35
 have HR0_2 := Aside0.mk hr0_2
 have HC0_2 := Aside0.mk hc0_2
 clear hr0_2 hc0_2
 have HB := Aside0.mk (Below.refl w.heap.size w)
 have H : (spec_l02Parent.l0 k a1 0 a0_0 a0_1 l0_2) = some r := h
 clear h
 have H' := Aside0.mk H
 clear H
 go_enter Tryz.func166, Tryz.ntmps166
 go_wp2_with (first | ((with_reducible refine gate_dst (N := 2) rfl ?_); refine Xbox 2 #[.int .i64 a0_0, .int .i64 a0_1, .slice A0_2 l0_2.length c0_2] 35 ?_; intro gb186 hg w3 hbox hb; have BK186 := Aside0.mk (hbox); have GE186 := Xge hg Xi; replace HB := Aside0.mk (below_step Xi hb); clear hb hbox hg))
 go_loopg [5] k (fun kq v5 w' => ∃ (x5_1 : Int), v5 = .int .i64 x5_1 ∧ Aside0 (spec_l02Parent.l0 kq a1 x5_1 a0_0 a0_1 l0_2 = some r) ∧ Aside0 (kq ≤ k) ∧ Aside0 (w'.heap[gb186]? = some (.cells #[.int .i64 a0_0, .int .i64 a0_1, (.slice A0_2 l0_2.length c0_2)] 35 (0, 0))) ∧ Aside0 (Below w.heap.size w w'))
 case atStart => exact ⟨(0), Xr, H', Xkr, BK186, ⟨Xi⟩⟩
 clear H'
 obtain ⟨x5_1, rfl, HA, HK1, BK186, HB⟩ := hrel
 cases gk with | zero => cases HA.out | succ k1 => ?_
 have H := HA.out
 clear HA
 simp only [spec_l02Parent.l0] at H
 obtain ⟨c4b0, H⟩ | ⟨c4b0, H⟩ := Xit H
 ·obtain ⟨c5b0, H⟩ := Xid H
  obtain ⟨t188, A6, H⟩ := Xbi H
  try dsimp only at H
  have HC7 := Aside0.mk H
  clear H
  obtain ⟨hcz8_0, hcz8_1, hcz8_2⟩ := Xc3 BK186
  obtain ⟨ad187, A187_4, c187_4, e187, p187, q187, hx187_0, hx187_1, hx187_2, hx187_3, hx187_4, HC187_4, HR187_4⟩ := at_B113 HR0_2 x5_1 Xa Xa HB
  cases e187
  go_upto_if 20 with (first | ((with_reducible refine gate_callee (f := 104) rfl ?_); refine Xgo 20 Tryz.func104 #[.slice A187_4 ((rd_T113 l0_2 x5_1).f4).length c187_4, .int .i64 a1] ?_; (with_reducible refine (spec_l02Has.calls k1 _ _ ((rd_T113 l0_2 x5_1).f4) a1 t188 _ ?side1 ?side2 A6.out).mono ?_); (case side1 => exact Xc HR187_4); (case side2 => exact HC187_4.out); rintro e w' ⟨rfl, ⟨nd, rfl⟩⟩; refine ⟨_, rfl, ?_⟩))
  have H := HC7.out
  clear HC7
  by_cases c9 : t188 = true
  ·subst c9
   try rw [if_pos rfl] at H
   obtain rfl := Option.some.inj H
   obtain ⟨hcz10_0, hcz10_1, hcz10_2⟩ := Xc3 BK186
   obtain ⟨ad189, A189_4, c189_4, e189, p189, q189, hx189_0, hx189_1, hx189_2, hx189_3, hx189_4, HC189_4, HR189_4⟩ := at_B113 HR0_2 x5_1 Xa Xa HB
   obtain rfl : ad187 = ad189 := (by injection e189)
   go_wp2
   go_ret
   exact ⟨Xe, Xi⟩
  replace c9 := Bool.eq_false_iff.mpr c9
  subst c9
  try rw [if_neg (show ¬ (false = true) by decide)] at H
  have H' := Aside0.mk H
  clear H
  go_wp2
  go_roundg k1
  case measure => have := HK1.out; omega
  case rel => exact ⟨(wrap64 (x5_1 + 1)), Xr, H', Xk1, BK186, ⟨Xi⟩⟩
 obtain rfl := Option.some.inj H
 obtain ⟨hcz11_0, hcz11_1, hcz11_2⟩ := Xc3 BK186
 go_wp2
 go_ret
 exact ⟨Xe, Xi⟩
mutual
def spec_l02Reach.l0 : Nat → Int → Int → Int → List (S113) → Option (Bool)
 | 0, _, _, _, _ => none
 | k + 1, x3, x191000, x191001, x191002 => if x3 < (x191002.length : Int) then (if 0 ≤ x3 then (spec_l02Reach.l1 k x3 ((rd_T113 x191002 x3).f0) 0 x191000 x191001 x191002) else (none)) else (some true)
def spec_l02Reach.l1 : Nat → Int → Int → Int → Int → Int → List (S113) → Option (Bool)
 | 0, _, _, _, _, _, _ => none
 | k + 1, x3, x4, x5, x191000, x191001, x191002 => if x4 = x191000 then (spec_l02Reach.l0 k (wrap64 (x3 + 1)) x191000 x191001 x191002) else (if x4 > 0 then (if x5 ≤ (x191002.length : Int) then ((spec_l02Parent.f k x191000 x191001 x191002 x4).bind fun t192 => (spec_l02Reach.l1 k x3 t192 (wrap64 (x5 + 1)) x191000 x191001 x191002)) else (some false)) else (some false))
end
def spec_l02Reach.f (k : Nat) (a0_0 : Int) (a0_1 : Int) (l0_2 : List (S113)) : Option (Bool) := spec_l02Reach.l0 k 0 a0_0 a0_1 l0_2
theorem spec_l02Reach.calls (k : Nat) (a0_0 : Int) (a0_1 : Int) (A0_2 : Option Addr) (c0_2 : Nat) (l0_2 : List (S113)) (r : Bool) (w : World) (hr0_2 : Kd.C k113 w A0_2 l0_2.length l0_2) (hc0_2 : l0_2.length ≤ c0_2) (h : spec_l02Reach.f k a0_0 a0_1 l0_2 = some r) :
  Calls Tryz.prog 170 #[.agg #[.int .i64 a0_0, .int .i64 a0_1, .slice A0_2 l0_2.length c0_2]] w fun e w' => e = .returned (.bool r) ∧ Below w.heap.size w w' := by
 have hu35 := Tryz.underlying35
 have HR0_2 := Aside0.mk hr0_2
 have HC0_2 := Aside0.mk hc0_2
 clear hr0_2 hc0_2
 have HB := Aside0.mk (Below.refl w.heap.size w)
 have H : (spec_l02Reach.l0 k 0 a0_0 a0_1 l0_2) = some r := h
 clear h
 have H' := Aside0.mk H
 clear H
 go_enter Tryz.func170, Tryz.ntmps170
 go_wp2_with (first | ((with_reducible refine gate_dst (N := 1) rfl ?_); (try (refine gate_guard (by rfl) ?_; dsimp only)); refine Xbox 1 #[.int .i64 a0_0, .int .i64 a0_1, .slice A0_2 l0_2.length c0_2] 35 ?_; intro gb190 hg w2 hbox hb; have BK190 := Aside0.mk (hbox); have GE190 := Xge hg Xi; replace HB := Aside0.mk (below_step Xi hb); clear hb hbox hg))
 go_loopg [3] k (fun kq v3 w' => ∃ (x3_1 : Int), v3 = .int .i64 x3_1 ∧ Aside0 (spec_l02Reach.l0 kq x3_1 a0_0 a0_1 l0_2 = some r) ∧ Aside0 (kq ≤ k) ∧ Aside0 (w'.heap[gb190]? = some (.cells #[.int .i64 a0_0, .int .i64 a0_1, (.slice A0_2 l0_2.length c0_2)] 35 (0, 0))) ∧ Aside0 (Below w.heap.size w w'))
 case atStart => exact ⟨(0), Xr, H', Xkr, BK190, ⟨Xi⟩⟩
 clear H'
 obtain ⟨x3_1, rfl, HA, HK1, BK190, HB⟩ := hrel
 cases gk with | zero => cases HA.out | succ k1 => ?_
 have H := HA.out
 clear HA
 simp only [spec_l02Reach.l0] at H
 obtain ⟨c3b0, H⟩ | ⟨c3b0, H⟩ := Xit H
 ·obtain ⟨c4b0, H⟩ := Xid H
  have H' := Aside0.mk H
  clear H
  obtain ⟨hcz5_0, hcz5_1, hcz5_2⟩ := Xc3 BK190
  obtain ⟨ad191, A191_4, c191_4, e191, p191, q191, hx191_0, hx191_1, hx191_2, hx191_3, hx191_4, HC191_4, HR191_4⟩ := at_B113 HR0_2 x3_1 Xa Xa HB
  cases e191
  go_wp2
  go_loopg [4, 5] k1 (fun kq v4 v5 w' => ∃ (x4_2 : Int) (x5_2 : Int), v4 = .int .i64 x4_2 ∧ v5 = .int .i64 x5_2 ∧ Aside0 (spec_l02Reach.l1 kq x3_1 x4_2 x5_2 a0_0 a0_1 l0_2 = some r) ∧ Aside0 (kq ≤ k1) ∧ Aside0 (w'.heap[gb190]? = some (.cells #[.int .i64 a0_0, .int .i64 a0_1, (.slice (some ad191) l0_2.length c0_2)] 35 (0, 0))) ∧ Aside0 (Below w.heap.size w w'))
  case atStart => exact ⟨((rd_T113 l0_2 x3_1).f0), (0), Xr, Xr, H', Xkr, BK190, ⟨Xi⟩⟩
  clear H'
  (try clear c3); (try clear c3b0); (try clear c4); (try clear c4b0); (try clear hcz5_0); (try clear hcz5_1); (try clear hcz5_2); (try clear hx191_0); (try clear hx191_1); (try clear hx191_2); (try clear hx191_3); (try clear hx191_4); (try clear p191); (try clear q191)
  obtain ⟨x4_2, x5_2, rfl, rfl, HA, HK2, BK190, HB⟩ := hrel
  cases gk with | zero => cases HA.out | succ k2 => ?_
  have H := HA.out
  clear HA
  simp only [spec_l02Reach.l1] at H
  obtain ⟨c6, H⟩ | ⟨c6, H⟩ := Xiu H
  ·have c6b0 : (x4_2 == a0_0) = true := beq_iff_eq.mpr c6
   have c6b1 : (x4_2 != a0_0) = false := bne_eq_false_iff_eq.mpr c6
   clear c6
   have H' := Aside0.mk H
   clear H
   obtain ⟨hcz7_0, hcz7_1, hcz7_2⟩ := Xc3 BK190
   go_wp2
   go_roundg k2
   case measure => have := HK1.out; have := HK2.out; omega
   case rel => exact ⟨(wrap64 (x3_1 + 1)), Xr, H', ⟨by have := HK1.out; have := HK2.out; omega⟩, BK190, ⟨Xi⟩⟩
  have c6b0 : (x4_2 == a0_0) = false := beq_eq_false_iff_ne.mpr c6
  have c6b1 : (x4_2 != a0_0) = true := bne_iff_ne.mpr c6
  obtain ⟨c8, H⟩ | ⟨c8, H⟩ := Xiu H
  ·have c8b0 : decide (0 < x4_2) = true := decide_eq_true c8
   clear c8
   obtain ⟨c9b0, H⟩ | ⟨c9b0, H⟩ := Xit H
   ·obtain ⟨t192, A10, H⟩ := Xbi H
    try dsimp only at H
    have H' := Aside0.mk H
    clear H
    obtain ⟨hcz11_0, hcz11_1, hcz11_2⟩ := Xc3 BK190
    go_wp2_with (first | ((with_reducible refine gate_callee (f := 166) rfl ?_); refine Xgo 36 Tryz.func166 #[.agg #[.int .i64 a0_0, .int .i64 a0_1, .slice (some ad191) l0_2.length c0_2], .int .i64 x4_2] ?_; (with_reducible refine (spec_l02Parent.calls k2 a0_0 a0_1 _ _ l0_2 x4_2 t192 _ ?side1 ?side2 A10.out).mono ?_); (case side1 => exact Xc HR0_2); (case side2 => exact HC0_2.out); rintro e w12 ⟨rfl, hb⟩; refine ⟨_, rfl, ?_⟩; replace BK190 := Xbb BK190 hb; replace HB := Aside0.mk (below_step Xi hb); clear hb))
    go_roundg k2
    case measure => have := HK1.out; have := HK2.out; omega
    case rel => exact ⟨(t192), (wrap64 (x5_2 + 1)), Xr, Xr, H', ⟨by have := HK1.out; have := HK2.out; omega⟩, BK190, ⟨Xi⟩⟩
   obtain rfl := Option.some.inj H
   obtain ⟨hcz13_0, hcz13_1, hcz13_2⟩ := Xc3 BK190
   go_wp2
   go_ret
   exact ⟨Xe, Xi⟩
  have c8b0 : decide (0 < x4_2) = false := decide_eq_false c8
  clear c8
  obtain rfl := Option.some.inj H
  obtain ⟨hcz14_0, hcz14_1, hcz14_2⟩ := Xc3 BK190
  go_wp2
  go_ret
  exact ⟨Xe, Xi⟩
 obtain rfl := Option.some.inj H
 obtain ⟨hcz15_0, hcz15_1, hcz15_2⟩ := Xc3 BK190
 go_wp2
 go_ret
 exact ⟨Xe, Xi⟩
def spec_l02OK.f (k : Nat) (a0_0 : Int) (a0_1 : Int) (l0_2 : List (S113)) : Option (Bool) := (spec_l01In.f (l0_2.length : Int) 1 40).bind fun t194 => (if t194 = true then ((spec_l01In.f a0_1 2 999999).bind fun t195 => (if t195 = true then ((spec_l02Nodes.f k a0_0 a0_1 l0_2).bind fun t196 => (if t196 = true then ((spec_l02Reach.f k a0_0 a0_1 l0_2).bind fun t197 => (if t197 = true then ((spec_l02Deep.f k a0_0 a0_1 l0_2 a0_0 6).bind fun t198 => (some (decide (t198 ≤ 6)))) else (some false))) else (some false))) else (some false))) else (some false))
theorem spec_l02OK.calls (k : Nat) (a0_0 : Int) (a0_1 : Int) (A0_2 : Option Addr) (c0_2 : Nat) (l0_2 : List (S113)) (r : Bool) (w : World) (hr0_2 : Kd.C k113 w A0_2 l0_2.length l0_2) (hc0_2 : l0_2.length ≤ c0_2) (h : spec_l02OK.f k a0_0 a0_1 l0_2 = some r) :
  Calls Tryz.prog 143 #[.agg #[.int .i64 a0_0, .int .i64 a0_1, .slice A0_2 l0_2.length c0_2]] w fun e w' => e = .returned (.bool r) ∧ Below w.heap.size w w' := by
 have hu35 := Tryz.underlying35
 have HR0_2 := Aside0.mk hr0_2
 have HC0_2 := Aside0.mk hc0_2
 clear hr0_2 hc0_2
 have HB := Aside0.mk (Below.refl w.heap.size w)
 have H : ((spec_l01In.f (l0_2.length : Int) 1 40).bind fun t194 => (if t194 = true then ((spec_l01In.f a0_1 2 999999).bind fun t195 => (if t195 = true then ((spec_l02Nodes.f k a0_0 a0_1 l0_2).bind fun t196 => (if t196 = true then ((spec_l02Reach.f k a0_0 a0_1 l0_2).bind fun t197 => (if t197 = true then ((spec_l02Deep.f k a0_0 a0_1 l0_2 a0_0 6).bind fun t198 => (some (decide (t198 ≤ 6)))) else (some false))) else (some false))) else (some false))) else (some false))) = some r := h
 clear h
 have HC2 := Aside0.mk H
 clear H
 go_enter Tryz.func143, Tryz.ntmps143
 go_upto_region 1 with (first | ((with_reducible refine gate_dst (N := 1) rfl ?_); refine Xbox 1 #[.int .i64 a0_0, .int .i64 a0_1, .slice A0_2 l0_2.length c0_2] 35 ?_; intro gb193 hg w3 hbox hb; have BK193 := Aside0.mk (hbox); have GE193 := Xge hg Xi; replace HB := Aside0.mk (below_step Xi hb); clear hb hbox hg))
 have H := HC2.out
 clear HC2
 obtain ⟨t194, A4, H⟩ := Xbi H
 try dsimp only at H
 by_cases c5 : t194 = true
 ·subst c5
  try rw [if_pos rfl] at H
  obtain ⟨t195, A6, H⟩ := Xbi H
  try dsimp only at H
  by_cases c7 : t195 = true
  ·subst c7
   try rw [if_pos rfl] at H
   obtain ⟨t196, A8, H⟩ := Xbi H
   try dsimp only at H
   by_cases c9 : t196 = true
   ·subst c9
    try rw [if_pos rfl] at H
    obtain ⟨t197, A10, H⟩ := Xbi H
    try dsimp only at H
    by_cases c11 : t197 = true
    ·subst c11
     try rw [if_pos rfl] at H
     obtain ⟨t198, A12, H⟩ := Xbi H
     try dsimp only at H
     obtain rfl := Option.some.inj H
     obtain ⟨hcz13_0, hcz13_1, hcz13_2⟩ := Xc3 BK193
     go_wp2_with (first | ((with_reducible refine gate_callee (f := 88) rfl ?_); refine Xgo 6 Tryz.func88 #[.int .i64 (l0_2.length : Int), .int .i64 1, .int .i64 40] ?_; (with_reducible refine (spec_l01In.calls (l0_2.length : Int) 1 40 true _ A4.out).mono ?_); rintro e w' ⟨rfl, ⟨nd, rfl⟩⟩; refine ⟨_, rfl, ?_⟩) | (go_at_call 88; (with_reducible refine (spec_l01In.calls a0_1 2 999999 true _ A6.out).mono ?_); rintro e w' ⟨rfl, ⟨nd, rfl⟩⟩) | (go_at_call 169; (with_reducible refine (spec_l02Nodes.calls k a0_0 a0_1 _ _ l0_2 true _ ?side1 ?side2 A8.out).mono ?_); (case side1 => exact Xc HR0_2); (case side2 => exact HC0_2.out); rintro e w14 ⟨rfl, hb⟩; replace BK193 := Xbb BK193 hb; replace HB := Aside0.mk (below_step Xi hb); clear hb; obtain ⟨hcz15_0, hcz15_1, hcz15_2⟩ := Xc3 BK193) | (go_at_call 170; (with_reducible refine (spec_l02Reach.calls k a0_0 a0_1 _ _ l0_2 true _ ?side1 ?side2 A10.out).mono ?_); (case side1 => exact Xc HR0_2); (case side2 => exact HC0_2.out); rintro e w16 ⟨rfl, hb⟩; replace BK193 := Xbb BK193 hb; replace HB := Aside0.mk (below_step Xi hb); clear hb; obtain ⟨hcz17_0, hcz17_1, hcz17_2⟩ := Xc3 BK193) | (go_at_call 158; (with_reducible refine (spec_l02Deep.calls k a0_0 a0_1 _ _ l0_2 a0_0 6 t198 _ ?side1 ?side2 A12.out).mono ?_); (case side1 => exact Xc HR0_2); (case side2 => exact HC0_2.out); rintro e w18 ⟨rfl, hb⟩; replace BK193 := Xbb BK193 hb; replace HB := Aside0.mk (below_step Xi hb); clear hb))
     go_ret
     exact ⟨Xe, Xi⟩
    replace c11 := Bool.eq_false_iff.mpr c11
    subst c11
    try rw [if_neg (show ¬ (false = true) by decide)] at H
    obtain rfl := Option.some.inj H
    obtain ⟨hcz19_0, hcz19_1, hcz19_2⟩ := Xc3 BK193
    go_wp2_with (first | ((with_reducible refine gate_callee (f := 88) rfl ?_); refine Xgo 6 Tryz.func88 #[.int .i64 (l0_2.length : Int), .int .i64 1, .int .i64 40] ?_; (with_reducible refine (spec_l01In.calls (l0_2.length : Int) 1 40 true _ A4.out).mono ?_); rintro e w' ⟨rfl, ⟨nd, rfl⟩⟩; refine ⟨_, rfl, ?_⟩) | (go_at_call 88; (with_reducible refine (spec_l01In.calls a0_1 2 999999 true _ A6.out).mono ?_); rintro e w' ⟨rfl, ⟨nd, rfl⟩⟩) | (go_at_call 169; (with_reducible refine (spec_l02Nodes.calls k a0_0 a0_1 _ _ l0_2 true _ ?side1 ?side2 A8.out).mono ?_); (case side1 => exact Xc HR0_2); (case side2 => exact HC0_2.out); rintro e w20 ⟨rfl, hb⟩; replace BK193 := Xbb BK193 hb; replace HB := Aside0.mk (below_step Xi hb); clear hb; obtain ⟨hcz21_0, hcz21_1, hcz21_2⟩ := Xc3 BK193) | (go_at_call 170; (with_reducible refine (spec_l02Reach.calls k a0_0 a0_1 _ _ l0_2 false _ ?side1 ?side2 A10.out).mono ?_); (case side1 => exact Xc HR0_2); (case side2 => exact HC0_2.out); rintro e w22 ⟨rfl, hb⟩; replace BK193 := Xbb BK193 hb; replace HB := Aside0.mk (below_step Xi hb); clear hb))
    go_ret
    exact ⟨Xe, Xi⟩
   replace c9 := Bool.eq_false_iff.mpr c9
   subst c9
   try rw [if_neg (show ¬ (false = true) by decide)] at H
   obtain rfl := Option.some.inj H
   obtain ⟨hcz23_0, hcz23_1, hcz23_2⟩ := Xc3 BK193
   go_wp2_with (first | ((with_reducible refine gate_callee (f := 88) rfl ?_); refine Xgo 6 Tryz.func88 #[.int .i64 (l0_2.length : Int), .int .i64 1, .int .i64 40] ?_; (with_reducible refine (spec_l01In.calls (l0_2.length : Int) 1 40 true _ A4.out).mono ?_); rintro e w' ⟨rfl, ⟨nd, rfl⟩⟩; refine ⟨_, rfl, ?_⟩) | (go_at_call 88; (with_reducible refine (spec_l01In.calls a0_1 2 999999 true _ A6.out).mono ?_); rintro e w' ⟨rfl, ⟨nd, rfl⟩⟩) | (go_at_call 169; (with_reducible refine (spec_l02Nodes.calls k a0_0 a0_1 _ _ l0_2 false _ ?side1 ?side2 A8.out).mono ?_); (case side1 => exact Xc HR0_2); (case side2 => exact HC0_2.out); rintro e w24 ⟨rfl, hb⟩; replace BK193 := Xbb BK193 hb; replace HB := Aside0.mk (below_step Xi hb); clear hb))
   go_ret
   exact ⟨Xe, Xi⟩
  replace c7 := Bool.eq_false_iff.mpr c7
  subst c7
  try rw [if_neg (show ¬ (false = true) by decide)] at H
  obtain rfl := Option.some.inj H
  obtain ⟨hcz25_0, hcz25_1, hcz25_2⟩ := Xc3 BK193
  go_wp2_with (first | ((with_reducible refine gate_callee (f := 88) rfl ?_); refine Xgo 6 Tryz.func88 #[.int .i64 (l0_2.length : Int), .int .i64 1, .int .i64 40] ?_; (with_reducible refine (spec_l01In.calls (l0_2.length : Int) 1 40 true _ A4.out).mono ?_); rintro e w' ⟨rfl, ⟨nd, rfl⟩⟩; refine ⟨_, rfl, ?_⟩) | (go_at_call 88; (with_reducible refine (spec_l01In.calls a0_1 2 999999 false _ A6.out).mono ?_); rintro e w' ⟨rfl, ⟨nd, rfl⟩⟩))
  go_ret
  exact ⟨Xe, Xi⟩
 replace c5 := Bool.eq_false_iff.mpr c5
 subst c5
 try rw [if_neg (show ¬ (false = true) by decide)] at H
 obtain rfl := Option.some.inj H
 obtain ⟨hcz26_0, hcz26_1, hcz26_2⟩ := Xc3 BK193
 go_wp2_with (first | ((with_reducible refine gate_callee (f := 88) rfl ?_); refine Xgo 6 Tryz.func88 #[.int .i64 (l0_2.length : Int), .int .i64 1, .int .i64 40] ?_; (with_reducible refine (spec_l01In.calls (l0_2.length : Int) 1 40 false _ A4.out).mono ?_); rintro e w' ⟨rfl, ⟨nd, rfl⟩⟩; refine ⟨_, rfl, ?_⟩))
 go_ret
 exact ⟨Xe, Xi⟩
def spec_l07Less.f (a0_0 : Int) (a0_1 : Int) (a0_2 : Int) (a1_0 : Int) (a1_1 : Int) (a1_2 : Int) : Option (Bool) := if a0_0 < a1_0 then (some true) else (if a0_0 = a1_0 then (some (decide (a0_1 < a1_1))) else (some false))
theorem spec_l07Less.calls (a0_0 : Int) (a0_1 : Int) (a0_2 : Int) (a1_0 : Int) (a1_1 : Int) (a1_2 : Int) (r : Bool) (w : World) (h : spec_l07Less.f a0_0 a0_1 a0_2 a1_0 a1_1 a1_2 = some r) :
  Calls Tryz.prog 139 #[.agg #[.int .i64 a0_0, .int .i64 a0_1, .int .i64 a0_2], .agg #[.int .i64 a1_0, .int .i64 a1_1, .int .i64 a1_2]] w fun e w' => e = .returned (.bool r) ∧ Below w.heap.size w w' := by
 have hu39 := Tryz.underlying39
 have HB := Aside0.mk (Below.refl w.heap.size w)
 have H : (if a0_0 < a1_0 then (some true) else (if a0_0 = a1_0 then (some (decide (a0_1 < a1_1))) else (some false))) = some r := h
 clear h
 have HC3 := Aside0.mk H
 clear H
 go_enter Tryz.func139, Tryz.ntmps139
 go_upto_region 1 with (first | ((with_reducible refine gate_dst (N := 2) rfl ?_); refine Xbox 2 #[.int .i64 a0_0, .int .i64 a0_1, .int .i64 a0_2] 39 ?_; intro gb199 hg w4 hbox hb; have BK199 := Aside0.mk (hbox); have GE199 := Xge hg Xi; replace HB := Aside0.mk (below_step Xi hb); clear hb hbox hg) | ((with_reducible refine gate_dst (N := 3) rfl ?_); refine Xbox 3 #[.int .i64 a1_0, .int .i64 a1_1, .int .i64 a1_2] 39 ?_; intro gb200 hg w5 hbox hb; have BK200 := Aside0.mk (hbox); have GE200 := Xge hg Xi; replace HB := Aside0.mk (below_step Xi hb); have NB199_200 := Xnb hg BK199; have NB200_199 := Xns NB199_200; replace BK199 := Xbb BK199 hb; clear hb hbox hg))
 have H := HC3.out
 clear HC3
 obtain ⟨c6b0, H⟩ | ⟨c6b0, H⟩ := Xit H
 ·obtain rfl := Option.some.inj H
  have hnb7 := NB199_200.out
  have hnc7 := NB200_199.out
  obtain ⟨hcz8_0, hcz8_1, hcz8_2⟩ := Xc3 BK199
  obtain ⟨hcz9_0, hcz9_1, hcz9_2⟩ := Xc3 BK200
  go_wp2
  go_ret
  exact ⟨Xe, Xi⟩
 obtain ⟨c10, H⟩ | ⟨c10, H⟩ := Xiu H
 ·have c10b0 : (a0_0 == a1_0) = true := beq_iff_eq.mpr c10
  have c10b1 : (a0_0 != a1_0) = false := bne_eq_false_iff_eq.mpr c10
  clear c10
  obtain rfl := Option.some.inj H
  have hnb11 := NB199_200.out
  have hnc11 := NB200_199.out
  obtain ⟨hcz12_0, hcz12_1, hcz12_2⟩ := Xc3 BK199
  obtain ⟨hcz13_0, hcz13_1, hcz13_2⟩ := Xc3 BK200
  go_wp2
  go_ret
  exact ⟨Xe, Xi⟩
 have c10b0 : (a0_0 == a1_0) = false := beq_eq_false_iff_ne.mpr c10
 have c10b1 : (a0_0 != a1_0) = true := bne_iff_ne.mpr c10
 obtain rfl := Option.some.inj H
 have hnb14 := NB199_200.out
 have hnc14 := NB200_199.out
 obtain ⟨hcz15_0, hcz15_1, hcz15_2⟩ := Xc3 BK199
 obtain ⟨hcz16_0, hcz16_1, hcz16_2⟩ := Xc3 BK200
 go_wp2
 go_ret
 exact ⟨Xe, Xi⟩
def spec_l07Mode.f (a0 : Int) : Option (Bool) := (spec_l01In.f a0 1 5).bind fun t201 => (some t201)
theorem spec_l07Mode.calls (a0 : Int) (r : Bool) (w : World) (h : spec_l07Mode.f a0 = some r) :
  Calls Tryz.prog 46 #[.int .i64 a0] w fun e w' => e = .returned (.bool r) ∧ Drawn0 w w' := by
 have H : ((spec_l01In.f a0 1 5).bind fun t201 => (some t201)) = some r := h
 clear h
 obtain ⟨t201, A2, H⟩ := Xbi H
 try dsimp only at H
 obtain rfl := Option.some.inj H
 go_enter Tryz.func46, Tryz.ntmps46
 go_wp2_with (first | ((with_reducible refine gate_callee (f := 88) rfl ?_); refine Xgo 4 Tryz.func88 #[.int .i64 a0, .int .i64 1, .int .i64 5] ?_; (with_reducible refine (spec_l01In.calls a0 1 5 t201 _ A2.out).mono ?_); rintro e w' ⟨rfl, ⟨nd, rfl⟩⟩; refine ⟨_, rfl, ?_⟩))
 go_ret
 exact ⟨Xr, Xdr⟩
def spec_l07Hold.f (k : Nat) (a0_0 : Int) (a0_1 : Int) (l0_2 : List (S113)) (a1_0 : Int) (a1_1 : Int) (a1_2 : Int) : Option (Bool) := (spec_l01In.f a1_0 1 999).bind fun t204 => (if t204 = true then ((spec_l07Mode.f a1_2).bind fun t205 => (if t205 = true then ((spec_l02At.f k a0_0 a0_1 l0_2 a1_1).bind fun t206 => (some (decide (t206 ≥ 0)))) else (some false))) else (some false))
theorem spec_l07Hold.calls (k : Nat) (a0_0 : Int) (a0_1 : Int) (A0_2 : Option Addr) (c0_2 : Nat) (l0_2 : List (S113)) (a1_0 : Int) (a1_1 : Int) (a1_2 : Int) (r : Bool) (w : World) (hr0_2 : Kd.C k113 w A0_2 l0_2.length l0_2) (hc0_2 : l0_2.length ≤ c0_2) (h : spec_l07Hold.f k a0_0 a0_1 l0_2 a1_0 a1_1 a1_2 = some r) :
  Calls Tryz.prog 171 #[.agg #[.int .i64 a0_0, .int .i64 a0_1, .slice A0_2 l0_2.length c0_2], .agg #[.int .i64 a1_0, .int .i64 a1_1, .int .i64 a1_2]] w fun e w' => e = .returned (.bool r) ∧ Below w.heap.size w w' := by
 have hu35 := Tryz.underlying35
 have hu39 := Tryz.underlying39
 have HR0_2 := Aside0.mk hr0_2
 have HC0_2 := Aside0.mk hc0_2
 clear hr0_2 hc0_2
 have HB := Aside0.mk (Below.refl w.heap.size w)
 have H : ((spec_l01In.f a1_0 1 999).bind fun t204 => (if t204 = true then ((spec_l07Mode.f a1_2).bind fun t205 => (if t205 = true then ((spec_l02At.f k a0_0 a0_1 l0_2 a1_1).bind fun t206 => (some (decide (t206 ≥ 0)))) else (some false))) else (some false))) = some r := h
 clear h
 have HC3 := Aside0.mk H
 clear H
 go_enter Tryz.func171, Tryz.ntmps171
 go_upto_region 1 with (first | ((with_reducible refine gate_dst (N := 2) rfl ?_); refine Xbox 2 #[.int .i64 a0_0, .int .i64 a0_1, .slice A0_2 l0_2.length c0_2] 35 ?_; intro gb202 hg w4 hbox hb; have BK202 := Aside0.mk (hbox); have GE202 := Xge hg Xi; replace HB := Aside0.mk (below_step Xi hb); clear hb hbox hg) | ((with_reducible refine gate_dst (N := 3) rfl ?_); refine Xbox 3 #[.int .i64 a1_0, .int .i64 a1_1, .int .i64 a1_2] 39 ?_; intro gb203 hg w5 hbox hb; have BK203 := Aside0.mk (hbox); have GE203 := Xge hg Xi; replace HB := Aside0.mk (below_step Xi hb); have NB202_203 := Xnb hg BK202; have NB203_202 := Xns NB202_203; replace BK202 := Xbb BK202 hb; clear hb hbox hg))
 have H := HC3.out
 clear HC3
 obtain ⟨t204, A6, H⟩ := Xbi H
 try dsimp only at H
 by_cases c7 : t204 = true
 ·subst c7
  try rw [if_pos rfl] at H
  obtain ⟨t205, A8, H⟩ := Xbi H
  try dsimp only at H
  by_cases c9 : t205 = true
  ·subst c9
   try rw [if_pos rfl] at H
   obtain ⟨t206, A10, H⟩ := Xbi H
   try dsimp only at H
   obtain rfl := Option.some.inj H
   have hnb11 := NB203_202.out
   have hnc11 := NB202_203.out
   obtain ⟨hcz12_0, hcz12_1, hcz12_2⟩ := Xc3 BK203
   go_wp2_with (first | ((with_reducible refine gate_callee (f := 88) rfl ?_); refine Xgo 7 Tryz.func88 #[.int .i64 a1_0, .int .i64 1, .int .i64 999] ?_; (with_reducible refine (spec_l01In.calls a1_0 1 999 true _ A6.out).mono ?_); rintro e w' ⟨rfl, ⟨nd, rfl⟩⟩; refine ⟨_, rfl, ?_⟩) | (go_at_call 46; (with_reducible refine (spec_l07Mode.calls a1_2 true _ A8.out).mono ?_); rintro e w' ⟨rfl, ⟨nd, rfl⟩⟩; obtain ⟨hcz13_0, hcz13_1, hcz13_2⟩ := Xc3 BK202) | (go_at_call 89; (with_reducible refine (spec_l02At.calls k a0_0 a0_1 _ _ l0_2 a1_1 t206 _ ?side1 ?side2 A10.out).mono ?_); (case side1 => exact Xc HR0_2); (case side2 => exact HC0_2.out); rintro e w14 ⟨rfl, hb⟩; replace BK202 := Xbb BK202 hb; replace BK203 := Xbb BK203 hb; replace HB := Aside0.mk (below_step Xi hb); clear hb))
   go_ret
   exact ⟨Xe, Xi⟩
  replace c9 := Bool.eq_false_iff.mpr c9
  subst c9
  try rw [if_neg (show ¬ (false = true) by decide)] at H
  obtain rfl := Option.some.inj H
  have hnb15 := NB203_202.out
  have hnc15 := NB202_203.out
  obtain ⟨hcz16_0, hcz16_1, hcz16_2⟩ := Xc3 BK203
  go_wp2_with (first | ((with_reducible refine gate_callee (f := 88) rfl ?_); refine Xgo 7 Tryz.func88 #[.int .i64 a1_0, .int .i64 1, .int .i64 999] ?_; (with_reducible refine (spec_l01In.calls a1_0 1 999 true _ A6.out).mono ?_); rintro e w' ⟨rfl, ⟨nd, rfl⟩⟩; refine ⟨_, rfl, ?_⟩) | (go_at_call 46; (with_reducible refine (spec_l07Mode.calls a1_2 false _ A8.out).mono ?_); rintro e w' ⟨rfl, ⟨nd, rfl⟩⟩))
  go_ret
  exact ⟨Xe, Xi⟩
 replace c7 := Bool.eq_false_iff.mpr c7
 subst c7
 try rw [if_neg (show ¬ (false = true) by decide)] at H
 obtain rfl := Option.some.inj H
 have hnb17 := NB203_202.out
 have hnc17 := NB202_203.out
 obtain ⟨hcz18_0, hcz18_1, hcz18_2⟩ := Xc3 BK203
 go_wp2_with (first | ((with_reducible refine gate_callee (f := 88) rfl ?_); refine Xgo 7 Tryz.func88 #[.int .i64 a1_0, .int .i64 1, .int .i64 999] ?_; (with_reducible refine (spec_l01In.calls a1_0 1 999 false _ A6.out).mono ?_); rintro e w' ⟨rfl, ⟨nd, rfl⟩⟩; refine ⟨_, rfl, ?_⟩))
 go_ret
 exact ⟨Xe, Xi⟩
end Go.Proofs.YtahhgjkgfbppeaaGreat.XA
