/- Words and contracts of this claim. Conditions: each theorem's own premises. -/
import Derived.Test.YtahhgjkgfbppeaaGreatProg
import Derived.Test.YtahhgjkgfbppeaaGreatZ0
import Derived.Below
import Derived.Deep.Draws
import Derived.Deep.AppendLies
import Derived.Maps.AppendAt
import Derived.OwnWalk
import Derived.Laws.BytesArg
import Derived.Laws.MakeOwn
import Derived.Laws.OwnMore
import Derived.Deep.OwnRows
import Derived.Tactics
import Derived.Lib.ConvBytes
import Derived.Laws.Slices
import Derived.WalkKit
import Derived.KernelRfl
import Derived.RowKit3
import Derived.Deep.LoopGhost
import Derived.Deep.QuietTactic
import Derived.BigQuiet
import Derived.WideLaws
import Derived.Deep.DeepCutAuto
import Derived.Deep.CutBlock
import Derived.Deep.RegionHeld3
import Derived.Laws.Rows
import Derived.Lib.AppendStr
import Derived.ArgAppend
import Derived.Laws.IdiomCopy
import Derived.OrdersHeld
import Derived.Laws.BitsLemmas
import Derived.RowKit
namespace Go.Proofs.YtahhgjkgfbppeaaGreat.XA
open Go.RowKit Go.Proofs.YtahhgjkgfbppeaaGreatW.PrintWords Go.Proofs.YtahhgjkgfbppeaaGreatW.PrintLast Go.Proofs.YtahhgjkgfbppeaaGreatW.PrintMore XW
attribute [local go_sem] max2_int min2_int max_two min_two max_three min_three max_four min_four   -- for this text's walks alone
set_option linter.unusedVariables false
set_option linter.unusedSimpArgs false
set_option maxHeartbeats 8000000
set_option maxRecDepth 100000
def errW : Option Int → Value
  | none => .nilIface
  | some c => .iface 0 (.int .i64 c)
theorem errW_none : errW none = .nilIface := rfl
theorem errW_some (c : Int) : errW (some c) = .iface 0 (.int .i64 c) := rfl
theorem info3 : (Tryz.prog.info? 3).map (fun i => (i.zero, i.size, i.bytes)) = some (some (.int .i64 0), 1, 8) := by kernel_rfl
theorem info39 : (Tryz.prog.info? 39).map (fun i => (i.zero, i.size, i.bytes)) = some (some (.agg #[(.int .i64 0), (.int .i64 0), (.int .i64 0)]), 3, 24) := by kernel_rfl
theorem info113 : (Tryz.prog.info? 113).map (fun i => (i.zero, i.size, i.bytes)) = some (some (.agg #[(.int .i64 0), (.int .i64 0), (.int .i64 0), (.string ⟨#[]⟩), (.slice none 0 0)]), 5, 64) := by kernel_rfl
structure S109 where
  f0 : Int
  f1 : Int
  f2 : Int
  f3 : ByteArray
  f4 : (List Int)
def z109 : S109 := ⟨(0 : Int), (0 : Int), (0 : Int), (⟨#[]⟩ : ByteArray), ([] : List Int)⟩
def k109 : Kd S109 := Kd.iso (Kd.pair (Kd.int .i64) (Kd.pair (Kd.int .i64) (Kd.pair (Kd.int .i64) (Kd.pair Kd.string (Kd.slice 3 (Kd.int .i64)))))) (fun x : S109 => (x.f0, x.f1, x.f2, x.f3, x.f4))
theorem k109_open {w : World} {x : S109} {cs : List Value} (h : k109.K w x cs) : ∃ A4 c4, cs = [.int .i64 x.f0, .int .i64 x.f1, .int .i64 x.f2, .string x.f3, .slice A4 x.f4.length c4] ∧ x.f4.length ≤ c4 ∧ (Kd.int .i64).C w A4 x.f4.length x.f4 := by
 obtain ⟨_, _, rfl, rfl, ⟨_, _, rfl, rfl, ⟨_, _, rfl, rfl, ⟨_, _, rfl, rfl, ⟨A4, c4, rfl, l4, g4⟩⟩⟩⟩⟩ := h
 exact ⟨A4, c4, rfl, l4, g4⟩
def rd_T109 (xs : List S109) (i : Int) : S109 := xs.getD i.toNat z109
theorem at_T109 {w : World} {A : Option Addr} {n : Nat} {xs : List S109} (h : Kd.C k109 w A n xs) (i : Int) (h0 : 0 ≤ i) (h1 : i < n) : ∃ ad A4 c4, A = some ad ∧ w.cell? (ad.add (i.toNat * 5)) = some (.int .i64 (rd_T109 xs i).f0) ∧ w.cell? ⟨(ad.add (i.toNat * 5)).block, (ad.add (i.toNat * 5)).off + 1, none⟩ = some (.int .i64 (rd_T109 xs i).f1) ∧ w.cell? ⟨(ad.add (i.toNat * 5)).block, (ad.add (i.toNat * 5)).off + 2, none⟩ = some (.int .i64 (rd_T109 xs i).f2) ∧ w.cell? ⟨(ad.add (i.toNat * 5)).block, (ad.add (i.toNat * 5)).off + 3, none⟩ = some (.string (rd_T109 xs i).f3) ∧ w.cell? ⟨(ad.add (i.toNat * 5)).block, (ad.add (i.toNat * 5)).off + 4, none⟩ = some (.slice A4 (rd_T109 xs i).f4.length c4) ∧ (rd_T109 xs i).f4.length ≤ c4 ∧ (Kd.int .i64).C w A4 (rd_T109 xs i).f4.length (rd_T109 xs i).f4 := by
 obtain ⟨ad, c, e, _, hK, hc0⟩ := Kd.C_get h z109 i h0 h1
 have hc : ∀ j u, c[j]? = some u → w.cell? (ad.add (i.toNat * 5 + j)) = some u := hc0
 obtain ⟨A4, c4, rfl, l4, g4⟩ := k109_open hK
 exact ⟨ad, A4, c4, e, hc 0 _ rfl, by rw [← add_field _ _ 1 (by omega)]; exact hc 1 _ rfl, by rw [← add_field _ _ 2 (by omega)]; exact hc 2 _ rfl, by rw [← add_field _ _ 3 (by omega)]; exact hc 3 _ rfl, by rw [← add_field _ _ 4 (by omega)]; exact hc 4 _ rfl, l4, g4⟩
theorem at_B109 {w W : World} {A : Option Addr} {n : Nat} {xs : List S109} (h : Aside0 (Kd.C k109 w A n xs)) (i : Int) (h0 : decide (0 ≤ i) = true) (h1 : decide (i < (n : Int)) = true) (hb : Aside0 (Below w.heap.size w W)) : ∃ ad A4 c4, A = some ad ∧ (0 ≤ i) = True ∧ (i < (n : Int)) = True ∧ W.cell? (ad.add (i.toNat * 5)) = some (.int .i64 (rd_T109 xs i).f0) ∧ W.cell? ⟨(ad.add (i.toNat * 5)).block, (ad.add (i.toNat * 5)).off + 1, none⟩ = some (.int .i64 (rd_T109 xs i).f1) ∧ W.cell? ⟨(ad.add (i.toNat * 5)).block, (ad.add (i.toNat * 5)).off + 2, none⟩ = some (.int .i64 (rd_T109 xs i).f2) ∧ W.cell? ⟨(ad.add (i.toNat * 5)).block, (ad.add (i.toNat * 5)).off + 3, none⟩ = some (.string (rd_T109 xs i).f3) ∧ W.cell? ⟨(ad.add (i.toNat * 5)).block, (ad.add (i.toNat * 5)).off + 4, none⟩ = some (.slice A4 (rd_T109 xs i).f4.length c4) ∧ Aside0 ((rd_T109 xs i).f4.length ≤ c4) ∧ Aside0 ((Kd.int .i64).C w A4 (rd_T109 xs i).f4.length (rd_T109 xs i).f4) := by
 obtain ⟨ad, A4, c4, e, y0, y1, y2, y3, y4, y5, y6⟩ := at_T109 h.out i (of_decide_eq_true h0) (of_decide_eq_true h1)
 exact ⟨ad, A4, c4, e, eq_true (of_decide_eq_true h0), eq_true (of_decide_eq_true h1), Xm hb y0, Xm hb y1, Xm hb y2, Xm hb y3, Xm hb y4, ⟨y5⟩, ⟨y6⟩⟩
structure S113 where
  f0 : Int
  f1 : Int
  f2 : Int
  f3 : ByteArray
  f4 : (List Int)
def z113 : S113 := ⟨(0 : Int), (0 : Int), (0 : Int), (⟨#[]⟩ : ByteArray), ([] : List Int)⟩
def k113 : Kd S113 := Kd.iso (Kd.pair (Kd.int .i64) (Kd.pair (Kd.int .i64) (Kd.pair (Kd.int .i64) (Kd.pair Kd.string (Kd.slice 3 (Kd.int .i64)))))) (fun x : S113 => (x.f0, x.f1, x.f2, x.f3, x.f4))
theorem k113_heap : Kd.Heap k113 := Kd.heap_iso _ (Kd.heap_pair (Kd.heap_int .i64) (Kd.heap_pair (Kd.heap_int .i64) (Kd.heap_pair (Kd.heap_int .i64) (Kd.heap_pair Kd.heap_string (Kd.heap_slice 3 (Kd.heap_int .i64))))))
theorem k113_open {w : World} {x : S113} {cs : List Value} (h : k113.K w x cs) : ∃ A4 c4, cs = [.int .i64 x.f0, .int .i64 x.f1, .int .i64 x.f2, .string x.f3, .slice A4 x.f4.length c4] ∧ x.f4.length ≤ c4 ∧ (Kd.int .i64).C w A4 x.f4.length x.f4 := by
 obtain ⟨_, _, rfl, rfl, ⟨_, _, rfl, rfl, ⟨_, _, rfl, rfl, ⟨_, _, rfl, rfl, ⟨A4, c4, rfl, l4, g4⟩⟩⟩⟩⟩ := h
 exact ⟨A4, c4, rfl, l4, g4⟩
theorem k113_openM {w : World} {base : Nat} {ok : Nat → Prop} {x : S113} {cs : List Value} (h : k113.M w base ok x cs) : ∃ v4, cs = [.int .i64 x.f0, .int .i64 x.f1, .int .i64 x.f2, .string x.f3, v4] ∧ (Kd.int .i64).R 3 w base ok v4 x.f4 := by
 obtain ⟨_, _, rfl, rfl, ⟨_, _, rfl, rfl, ⟨_, _, rfl, rfl, ⟨_, _, rfl, rfl, ⟨v4, rfl, g4⟩⟩⟩⟩⟩ := h
 exact ⟨v4, rfl, g4⟩
theorem k113_mkM (w : World) (base : Nat) (ok : Nat → Prop) (x : S113) {v4 : Value} (g4 : (Kd.int .i64).R 3 w base ok v4 x.f4) : k113.M w base ok x [.int .i64 x.f0, .int .i64 x.f1, .int .i64 x.f2, .string x.f3, v4] := ⟨[.int .i64 x.f0], [.int .i64 x.f1, .int .i64 x.f2, .string x.f3, v4], rfl, rfl, ⟨[.int .i64 x.f1], [.int .i64 x.f2, .string x.f3, v4], rfl, rfl, ⟨[.int .i64 x.f2], [.string x.f3, v4], rfl, rfl, ⟨[.string x.f3], [v4], rfl, rfl, ⟨v4, rfl, g4⟩⟩⟩⟩⟩
def rd_T113 (xs : List S113) (i : Int) : S113 := xs.getD i.toNat z113
theorem at_T113 {w : World} {A : Option Addr} {n : Nat} {xs : List S113} (h : Kd.C k113 w A n xs) (i : Int) (h0 : 0 ≤ i) (h1 : i < n) : ∃ ad A4 c4, A = some ad ∧ w.cell? (ad.add (i.toNat * 5)) = some (.int .i64 (rd_T113 xs i).f0) ∧ w.cell? ⟨(ad.add (i.toNat * 5)).block, (ad.add (i.toNat * 5)).off + 1, none⟩ = some (.int .i64 (rd_T113 xs i).f1) ∧ w.cell? ⟨(ad.add (i.toNat * 5)).block, (ad.add (i.toNat * 5)).off + 2, none⟩ = some (.int .i64 (rd_T113 xs i).f2) ∧ w.cell? ⟨(ad.add (i.toNat * 5)).block, (ad.add (i.toNat * 5)).off + 3, none⟩ = some (.string (rd_T113 xs i).f3) ∧ w.cell? ⟨(ad.add (i.toNat * 5)).block, (ad.add (i.toNat * 5)).off + 4, none⟩ = some (.slice A4 (rd_T113 xs i).f4.length c4) ∧ (rd_T113 xs i).f4.length ≤ c4 ∧ (Kd.int .i64).C w A4 (rd_T113 xs i).f4.length (rd_T113 xs i).f4 := by
 obtain ⟨ad, c, e, _, hK, hc0⟩ := Kd.C_get h z113 i h0 h1
 have hc : ∀ j u, c[j]? = some u → w.cell? (ad.add (i.toNat * 5 + j)) = some u := hc0
 obtain ⟨A4, c4, rfl, l4, g4⟩ := k113_open hK
 exact ⟨ad, A4, c4, e, hc 0 _ rfl, by rw [← add_field _ _ 1 (by omega)]; exact hc 1 _ rfl, by rw [← add_field _ _ 2 (by omega)]; exact hc 2 _ rfl, by rw [← add_field _ _ 3 (by omega)]; exact hc 3 _ rfl, by rw [← add_field _ _ 4 (by omega)]; exact hc 4 _ rfl, l4, g4⟩
theorem at_B113 {w W : World} {A : Option Addr} {n : Nat} {xs : List S113} (h : Aside0 (Kd.C k113 w A n xs)) (i : Int) (h0 : decide (0 ≤ i) = true) (h1 : decide (i < (n : Int)) = true) (hb : Aside0 (Below w.heap.size w W)) : ∃ ad A4 c4, A = some ad ∧ (0 ≤ i) = True ∧ (i < (n : Int)) = True ∧ W.cell? (ad.add (i.toNat * 5)) = some (.int .i64 (rd_T113 xs i).f0) ∧ W.cell? ⟨(ad.add (i.toNat * 5)).block, (ad.add (i.toNat * 5)).off + 1, none⟩ = some (.int .i64 (rd_T113 xs i).f1) ∧ W.cell? ⟨(ad.add (i.toNat * 5)).block, (ad.add (i.toNat * 5)).off + 2, none⟩ = some (.int .i64 (rd_T113 xs i).f2) ∧ W.cell? ⟨(ad.add (i.toNat * 5)).block, (ad.add (i.toNat * 5)).off + 3, none⟩ = some (.string (rd_T113 xs i).f3) ∧ W.cell? ⟨(ad.add (i.toNat * 5)).block, (ad.add (i.toNat * 5)).off + 4, none⟩ = some (.slice A4 (rd_T113 xs i).f4.length c4) ∧ Aside0 ((rd_T113 xs i).f4.length ≤ c4) ∧ Aside0 ((Kd.int .i64).C w A4 (rd_T113 xs i).f4.length (rd_T113 xs i).f4) := by
 obtain ⟨ad, A4, c4, e, y0, y1, y2, y3, y4, y5, y6⟩ := at_T113 h.out i (of_decide_eq_true h0) (of_decide_eq_true h1)
 exact ⟨ad, A4, c4, e, eq_true (of_decide_eq_true h0), eq_true (of_decide_eq_true h1), Xm hb y0, Xm hb y1, Xm hb y2, Xm hb y3, Xm hb y4, ⟨y5⟩, ⟨y6⟩⟩
structure S27 where
  f0 : Int
  f1 : Int
  f2 : Int
def z27 : S27 := ⟨(0 : Int), (0 : Int), (0 : Int)⟩
def k27 : Kd S27 := Kd.iso (Kd.pair (Kd.int .i64) (Kd.pair (Kd.int .i64) (Kd.int .i64))) (fun x : S27 => (x.f0, x.f1, x.f2))
theorem k27_open {w : World} {x : S27} {cs : List Value} (h : k27.K w x cs) : cs = [.int .i64 x.f0, .int .i64 x.f1, .int .i64 x.f2] := by
 obtain ⟨_, _, rfl, rfl, ⟨_, _, rfl, rfl, rfl⟩⟩ := h
 exact rfl
def rd_T27 (xs : List S27) (i : Int) : S27 := xs.getD i.toNat z27
theorem at_T27 {w : World} {A : Option Addr} {n : Nat} {xs : List S27} (h : Kd.C k27 w A n xs) (i : Int) (h0 : 0 ≤ i) (h1 : i < n) : ∃ ad , A = some ad ∧ w.cell? (ad.add (i.toNat * 3)) = some (.int .i64 (rd_T27 xs i).f0) ∧ w.cell? ⟨(ad.add (i.toNat * 3)).block, (ad.add (i.toNat * 3)).off + 1, none⟩ = some (.int .i64 (rd_T27 xs i).f1) ∧ w.cell? ⟨(ad.add (i.toNat * 3)).block, (ad.add (i.toNat * 3)).off + 2, none⟩ = some (.int .i64 (rd_T27 xs i).f2) := by
 obtain ⟨ad, c, e, _, hK, hc0⟩ := Kd.C_get h z27 i h0 h1
 have hc : ∀ j u, c[j]? = some u → w.cell? (ad.add (i.toNat * 3 + j)) = some u := hc0
 obtain rfl := k27_open hK
 exact ⟨ad, e, hc 0 _ rfl, by rw [← add_field _ _ 1 (by omega)]; exact hc 1 _ rfl, by rw [← add_field _ _ 2 (by omega)]; exact hc 2 _ rfl⟩
theorem at_B27 {w W : World} {A : Option Addr} {n : Nat} {xs : List S27} (h : Aside0 (Kd.C k27 w A n xs)) (i : Int) (h0 : decide (0 ≤ i) = true) (h1 : decide (i < (n : Int)) = true) (hb : Aside0 (Below w.heap.size w W)) : ∃ ad , A = some ad ∧ (0 ≤ i) = True ∧ (i < (n : Int)) = True ∧ W.cell? (ad.add (i.toNat * 3)) = some (.int .i64 (rd_T27 xs i).f0) ∧ W.cell? ⟨(ad.add (i.toNat * 3)).block, (ad.add (i.toNat * 3)).off + 1, none⟩ = some (.int .i64 (rd_T27 xs i).f1) ∧ W.cell? ⟨(ad.add (i.toNat * 3)).block, (ad.add (i.toNat * 3)).off + 2, none⟩ = some (.int .i64 (rd_T27 xs i).f2) := by
 obtain ⟨ad, e, y0, y1, y2⟩ := at_T27 h.out i (of_decide_eq_true h0) (of_decide_eq_true h1)
 exact ⟨ad, e, eq_true (of_decide_eq_true h0), eq_true (of_decide_eq_true h1), Xm hb y0, Xm hb y1, Xm hb y2⟩
structure S39 where
  f0 : Int
  f1 : Int
  f2 : Int
def z39 : S39 := ⟨(0 : Int), (0 : Int), (0 : Int)⟩
def k39 : Kd S39 := Kd.iso (Kd.pair (Kd.int .i64) (Kd.pair (Kd.int .i64) (Kd.int .i64))) (fun x : S39 => (x.f0, x.f1, x.f2))
theorem k39_heap : Kd.Heap k39 := Kd.heap_iso _ (Kd.heap_pair (Kd.heap_int .i64) (Kd.heap_pair (Kd.heap_int .i64) (Kd.heap_int .i64)))
theorem k39_open {w : World} {x : S39} {cs : List Value} (h : k39.K w x cs) : cs = [.int .i64 x.f0, .int .i64 x.f1, .int .i64 x.f2] := by
 obtain ⟨_, _, rfl, rfl, ⟨_, _, rfl, rfl, rfl⟩⟩ := h
 exact rfl
theorem k39_openM {w : World} {base : Nat} {ok : Nat → Prop} {x : S39} {cs : List Value} (h : k39.M w base ok x cs) : cs = [.int .i64 x.f0, .int .i64 x.f1, .int .i64 x.f2] := by
 obtain ⟨_, _, rfl, rfl, ⟨_, _, rfl, rfl, rfl⟩⟩ := h
 exact rfl
theorem k39_mkM (w : World) (base : Nat) (ok : Nat → Prop) (x : S39)  : k39.M w base ok x [.int .i64 x.f0, .int .i64 x.f1, .int .i64 x.f2] := ⟨[.int .i64 x.f0], [.int .i64 x.f1, .int .i64 x.f2], rfl, rfl, ⟨[.int .i64 x.f1], [.int .i64 x.f2], rfl, rfl, rfl⟩⟩
def rd_T39 (xs : List S39) (i : Int) : S39 := xs.getD i.toNat z39
theorem at_T39 {w : World} {A : Option Addr} {n : Nat} {xs : List S39} (h : Kd.C k39 w A n xs) (i : Int) (h0 : 0 ≤ i) (h1 : i < n) : ∃ ad , A = some ad ∧ w.cell? (ad.add (i.toNat * 3)) = some (.int .i64 (rd_T39 xs i).f0) ∧ w.cell? ⟨(ad.add (i.toNat * 3)).block, (ad.add (i.toNat * 3)).off + 1, none⟩ = some (.int .i64 (rd_T39 xs i).f1) ∧ w.cell? ⟨(ad.add (i.toNat * 3)).block, (ad.add (i.toNat * 3)).off + 2, none⟩ = some (.int .i64 (rd_T39 xs i).f2) := by
 obtain ⟨ad, c, e, _, hK, hc0⟩ := Kd.C_get h z39 i h0 h1
 have hc : ∀ j u, c[j]? = some u → w.cell? (ad.add (i.toNat * 3 + j)) = some u := hc0
 obtain rfl := k39_open hK
 exact ⟨ad, e, hc 0 _ rfl, by rw [← add_field _ _ 1 (by omega)]; exact hc 1 _ rfl, by rw [← add_field _ _ 2 (by omega)]; exact hc 2 _ rfl⟩
theorem at_B39 {w W : World} {A : Option Addr} {n : Nat} {xs : List S39} (h : Aside0 (Kd.C k39 w A n xs)) (i : Int) (h0 : decide (0 ≤ i) = true) (h1 : decide (i < (n : Int)) = true) (hb : Aside0 (Below w.heap.size w W)) : ∃ ad , A = some ad ∧ (0 ≤ i) = True ∧ (i < (n : Int)) = True ∧ W.cell? (ad.add (i.toNat * 3)) = some (.int .i64 (rd_T39 xs i).f0) ∧ W.cell? ⟨(ad.add (i.toNat * 3)).block, (ad.add (i.toNat * 3)).off + 1, none⟩ = some (.int .i64 (rd_T39 xs i).f1) ∧ W.cell? ⟨(ad.add (i.toNat * 3)).block, (ad.add (i.toNat * 3)).off + 2, none⟩ = some (.int .i64 (rd_T39 xs i).f2) := by
 obtain ⟨ad, e, y0, y1, y2⟩ := at_T39 h.out i (of_decide_eq_true h0) (of_decide_eq_true h1)
 exact ⟨ad, e, eq_true (of_decide_eq_true h0), eq_true (of_decide_eq_true h1), Xm hb y0, Xm hb y1, Xm hb y2⟩
structure S24 where
  f0 : Int
  f1 : Int
  f2 : (List S109)
def k24 : Kd S24 := Kd.iso (Kd.pair (Kd.int .i64) (Kd.pair (Kd.int .i64) (Kd.slice 109 k109))) (fun x : S24 => (x.f0, x.f1, x.f2))
theorem k24_open {w : World} {x : S24} {cs : List Value} (h : k24.K w x cs) : ∃ A2 c2, cs = [.int .i64 x.f0, .int .i64 x.f1, .slice A2 x.f2.length c2] ∧ x.f2.length ≤ c2 ∧ k109.C w A2 x.f2.length x.f2 := by
 obtain ⟨_, _, rfl, rfl, ⟨_, _, rfl, rfl, ⟨A2, c2, rfl, l2, g2⟩⟩⟩ := h
 exact ⟨A2, c2, rfl, l2, g2⟩
structure S49 where
  f0 : (List S27)
  f1 : (List S27)
def k49 : Kd S49 := Kd.iso (Kd.pair (Kd.slice 27 k27) (Kd.slice 27 k27)) (fun x : S49 => (x.f0, x.f1))
theorem k49_open {w : World} {x : S49} {cs : List Value} (h : k49.K w x cs) : ∃ A0 c0 A1 c1, cs = [.slice A0 x.f0.length c0, .slice A1 x.f1.length c1] ∧ x.f0.length ≤ c0 ∧ k27.C w A0 x.f0.length x.f0 ∧ x.f1.length ≤ c1 ∧ k27.C w A1 x.f1.length x.f1 := by
 obtain ⟨_, _, rfl, ⟨A0, c0, rfl, l0, g0⟩, ⟨A1, c1, rfl, l1, g1⟩⟩ := h
 exact ⟨A0, c0, A1, c1, rfl, l0, g0, l1, g1⟩
structure S35 where
  f0 : Int
  f1 : Int
  f2 : (List S113)
structure S53 where
  f0 : (List S39)
  f1 : (List S39)
theorem footT113_4 {w : World} {S : Nat → Prop} {A : Option Addr} {n : Nat} {xs : List S113} (h : ∀ W_, Kept w W_ S → Kd.C k113 W_ A n xs) (i : Int) (h0 : 0 ≤ i) (h1 : i < n) :
    ∃ ad A4 c4, A = some ad ∧ (∀ W_, Kept w W_ S → W_.cell? ⟨(ad.add (i.toNat * 5)).block, (ad.add (i.toNat * 5)).off + 4, none⟩ = some (.slice A4 (rd_T113 xs i).f4.length c4)) ∧ (rd_T113 xs i).f4.length ≤ c4 ∧ ∀ W_, Kept w W_ S → Kd.C (Kd.int .i64) W_ A4 (rd_T113 xs i).f4.length ((rd_T113 xs i).f4) := by
 obtain ⟨ad, A4, c4, e, hx0, hx1, hx2, hx3, hx4, l4, g4⟩ := at_T113 (h w (Kept.refl w S)) i h0 h1
 subst e
 have hb : ¬ S ad.block := XW.foot_block (by decide) h (by omega)
 have hc : ∀ W_, Kept w W_ S → W_.cell? ⟨(ad.add (i.toNat * 5)).block, (ad.add (i.toNat * 5)).off + 4, none⟩ = some (.slice A4 (rd_T113 xs i).f4.length c4) := fun W_ hW => XW.foot_cell hW (by first | (rw [add_block]; exact hb) | (show ¬ S (Addr.add _ _).block; rw [add_block]; exact hb)) hx4
 refine ⟨ad, A4, c4, rfl, hc, l4, fun W_ hW => ?_⟩
 obtain ⟨ad2, B4, d4, e2, hy0, hy1, hy2, hy3, hy4, m4, k4⟩ := at_T113 (h W_ hW) i h0 h1
 obtain rfl : ad = ad2 := by injection e2
 have hs := Option.some.inj (hy4.symm.trans (hc W_ hW))
 injection hs with ha _ _
 rw [← ha]
 exact k4
def laws_szIntS.f (l0 : List Int) (a1 : Int) : Option (Int) := if (wrap64 (a1 - (l0.length : Int))) < 0 then (some (-1)) else (some (wrap64 (a1 - (l0.length : Int))))
theorem laws_szIntS.calls (A0 : Option Addr) (c0 : Nat) (l0 : List Int) (a1 : Int) (r : Int) (w : World) (hr0 : Kd.C (Kd.int .i64) w A0 l0.length l0) (hc0 : l0.length ≤ c0) (h : laws_szIntS.f l0 a1 = some r) :
  Calls Tryz.prog 142 #[.slice A0 l0.length c0, .int .i64 a1] w fun e w' => e = .returned (.int .i64 r) ∧ Drawn0 w w' := by
 have HR0 := Am hr0
 have HC0 := Am hc0
 clear hr0 hc0
 have H : (if (wrap64 (a1 - (l0.length : Int))) < 0 then (some (-1)) else (some (wrap64 (a1 - (l0.length : Int))))) = some r := h
 clear h
 obtain ⟨c3b0, H⟩ | ⟨c3b0, H⟩ := Xit H
 ·obtain rfl := Xsi H
  go_enter Tryz.func142, Tryz.ntmps142
  go_wp2
  go_ret
  exact ⟨Xr, Xdr⟩
 obtain rfl := Xsi H
 go_enter Tryz.func142, Tryz.ntmps142
 go_wp2
 go_ret
 exact ⟨Xr, Xdr⟩
def laws_szNode.f (a0_0 : Int) (a0_1 : Int) (a0_2 : Int) (a0_3 : ByteArray) (l0_4 : List Int) (a1 : Int) : Option (Int) := if (wrap64 (a1 - (a0_3.size : Int))) < 0 then (some (-1)) else ((laws_szIntS.f l0_4 (wrap64 (a1 - (a0_3.size : Int)))).bind fun t10 => (if t10 < 0 then (some (-1)) else (some t10)))
theorem laws_szNode.calls (a0_0 : Int) (a0_1 : Int) (a0_2 : Int) (a0_3 : ByteArray) (A0_4 : Option Addr) (c0_4 : Nat) (l0_4 : List Int) (a1 : Int) (r : Int) (w : World) (hr0_4 : Kd.C (Kd.int .i64) w A0_4 l0_4.length l0_4) (hc0_4 : l0_4.length ≤ c0_4) (h : laws_szNode.f a0_0 a0_1 a0_2 a0_3 l0_4 a1 = some r) :
  Calls Tryz.prog 86 #[.agg #[.int .i64 a0_0, .int .i64 a0_1, .int .i64 a0_2, .string a0_3, .slice A0_4 l0_4.length c0_4], .int .i64 a1] w fun e w' => e = .returned (.int .i64 r) ∧ Below w.heap.size w w' := by
 have hu109 := Tryz.underlying109
 have HR0_4 := Am hr0_4
 have HC0_4 := Am hc0_4
 clear hr0_4 hc0_4
 have HB := Am (Below.refl w.heap.size w)
 have H : (if (wrap64 (a1 - (a0_3.size : Int))) < 0 then (some (-1)) else ((laws_szIntS.f l0_4 (wrap64 (a1 - (a0_3.size : Int)))).bind fun t11 => (if t11 < 0 then (some (-1)) else (some t11)))) = some r := h
 clear h
 have HC3 := Am H
 clear H
 go_enter Tryz.func86, Tryz.ntmps86
 go_upto_if 11 with ((with_reducible refine gate_dst (N := 2) rfl ?_); refine Xbx 2 #[.int .i64 a0_0, .int .i64 a0_1, .int .i64 a0_2, .string a0_3, .slice A0_4 l0_4.length c0_4] 109 ?_; intro gb12 hg w4 B12 GE12 hb; replace HB := Xhb hb; clear hb hg; obtain ⟨Z5_0, Z5_1, Z5_2, Z5_3, Z5_4⟩ := Xc5 B12)
 have H := HC3.out
 clear HC3
 obtain ⟨c6b0, H⟩ | ⟨c6b0, H⟩ := Xit H
 ·(first | rw [c6b0] | (simp only [i64_w, i32_w]; rw [c6b0]) | skip)
  obtain rfl := Xsi H
  go_wp2
  go_ret
  exact ⟨Xe, Xi⟩
 (first | rw [c6b0] | (simp only [i64_w, i32_w]; rw [c6b0]) | skip)
 obtain ⟨t11, A7, H⟩ := Xbi H
 try dsimp only at H
 have HC8 := Am H
 clear H
 obtain ⟨Z9_0, Z9_1, Z9_2, Z9_3, Z9_4⟩ := Xc5 B12
 go_upto_if 17 with ((with_reducible refine gate_callee (f := 142) rfl ?_); refine Xgo 15 Tryz.func142 #[.slice A0_4 l0_4.length c0_4, .int .i64 (wrap64 (a1 - (a0_3.size : Int)))] ?_; (with_reducible refine (laws_szIntS.calls _ _ l0_4 (wrap64 (a1 - (a0_3.size : Int))) t11 _ ?s1 ?s2 A7.out).mono ?_); (case s1 => exact Xc HR0_4); (case s2 => exact HC0_4.out); rintro e w' ⟨rfl, ⟨nd, rfl⟩⟩; refine ⟨_, rfl, ?_⟩)
 have H := HC8.out
 clear HC8
 obtain ⟨c10b0, H⟩ | ⟨c10b0, H⟩ := Xit H
 ·(first | rw [c10b0] | (simp only [i64_w, i32_w]; rw [c10b0]) | skip)
  obtain rfl := Xsi H
  go_wp2
  go_ret
  exact ⟨Xe, Xi⟩
 (first | rw [c10b0] | (simp only [i64_w, i32_w]; rw [c10b0]) | skip)
 obtain rfl := Xsi H
 go_wp2
 go_ret
 exact ⟨Xe, Xi⟩
def laws_szNodeS.l0 : Nat → List (S109) → Int → Int → Option (Int)
 | 0, _, _, _ => none
 | k + 1, x0, x1, x5 => if x5 < (x0.length : Int) then (if 0 ≤ x5 then ((laws_szNode.f ((rd_T109 x0 x5).f0) ((rd_T109 x0 x5).f1) ((rd_T109 x0 x5).f2) ((rd_T109 x0 x5).f3) ((rd_T109 x0 x5).f4) x1).bind fun t10 => (if t10 < 0 then (some (-1)) else (laws_szNodeS.l0 k x0 t10 (wrap64 (x5 + 1))))) else (none)) else (some x1)
def laws_szNodeS.f (k : Nat) (l0 : List (S109)) (a1 : Int) : Option (Int) := if (wrap64 (a1 - (l0.length : Int))) < 0 then (some (-1)) else (laws_szNodeS.l0 k l0 (wrap64 (a1 - (l0.length : Int))) 0)
theorem laws_szNodeS.calls (k : Nat) (A0 : Option Addr) (c0 : Nat) (l0 : List (S109)) (a1 : Int) (r : Int) (w : World) (hr0 : Kd.C k109 w A0 l0.length l0) (hc0 : l0.length ≤ c0) (h : laws_szNodeS.f k l0 a1 = some r) :
  Calls Tryz.prog 44 #[.slice A0 l0.length c0, .int .i64 a1] w fun e w' => e = .returned (.int .i64 r) ∧ Below w.heap.size w w' := by
 have hu109 := Tryz.underlying109
 have HR0 := Am hr0
 have HC0 := Am hc0
 clear hr0 hc0
 have HB := Am (Below.refl w.heap.size w)
 have H : (if (wrap64 (a1 - (l0.length : Int))) < 0 then (some (-1)) else (laws_szNodeS.l0 k l0 (wrap64 (a1 - (l0.length : Int))) 0)) = some r := h
 clear h
 obtain ⟨c3b0, H⟩ | ⟨c3b0, H⟩ := Xit H
 ·obtain rfl := Xsi H
  go_enter Tryz.func44, Tryz.ntmps44
  go_wp2
  go_ret
  exact ⟨Xe, Xi⟩
 have H' := Am H
 clear H
 go_enter Tryz.func44, Tryz.ntmps44
 go_wp2
 go_loopg [1, 5] k (fun kq v1 v5 w' => ∃ (x1_1 : Int) (x5_1 : Int), v1 = .int .i64 x1_1 ∧ v5 = .int .i64 x5_1 ∧ Aside0 (laws_szNodeS.l0 kq l0 x1_1 x5_1 = some r) ∧ Aside0 (kq ≤ k) ∧ Aside0 (Below w.heap.size w w'))
 case atStart => exact ⟨(wrap64 (a1 - (l0.length : Int))), (0), Xr, Xr, H', Xkr, ⟨Xi⟩⟩
 clear H'
 (try clear c3); (try clear c3b0)
 obtain ⟨x1_1, x5_1, rfl, rfl, HA, HK1, HB⟩ := hrel
 cases gk with | zero => cases HA.out | succ k1 => ?_
 have H := HA.out
 clear HA
 simp only [laws_szNodeS.l0] at H
 obtain ⟨c4b0, H⟩ | ⟨c4b0, H⟩ := Xit H
 ·obtain ⟨c5b0, H⟩ := Xid H
  obtain ⟨t10, A6, H⟩ := Xbi H
  try dsimp only at H
  have HC7 := Am H
  clear H
  obtain ⟨ad11, A103_4, c103_4, e11, p11, q11, hx11_0, hx11_1, hx11_2, hx11_3, hx11_4, HC11_4, HR11_4⟩ := at_B109 HR0 x5_1 Xa Xa HB
  cases e11
  go_upto_if 25 with ((with_reducible refine gate_callee (f := 86) rfl ?_); refine Xgo 23 Tryz.func86 #[.agg #[.int .i64 ((rd_T109 l0 x5_1).f0), .int .i64 ((rd_T109 l0 x5_1).f1), .int .i64 ((rd_T109 l0 x5_1).f2), .string ((rd_T109 l0 x5_1).f3), .slice A103_4 ((rd_T109 l0 x5_1).f4).length c103_4], .int .i64 x1_1] ?_; (with_reducible refine (laws_szNode.calls ((rd_T109 l0 x5_1).f0) ((rd_T109 l0 x5_1).f1) ((rd_T109 l0 x5_1).f2) ((rd_T109 l0 x5_1).f3) _ _ ((rd_T109 l0 x5_1).f4) x1_1 t10 _ ?s1 ?s2 A6.out).mono ?_); (case s1 => exact Xc HR11_4); (case s2 => exact HC11_4.out); rintro e w8 ⟨rfl, hb⟩; refine ⟨_, rfl, ?_⟩; replace HB := Xhb hb; clear hb)
  have H := HC7.out
  clear HC7
  obtain ⟨c9b0, H⟩ | ⟨c9b0, H⟩ := Xit H
  ·(first | rw [c9b0] | (simp only [i64_w, i32_w]; rw [c9b0]) | skip)
   obtain rfl := Xsi H
   go_wp2
   go_ret
   exact ⟨Xe, Xi⟩
  (first | rw [c9b0] | (simp only [i64_w, i32_w]; rw [c9b0]) | skip)
  have H' := Am H
  clear H
  go_wp2
  go_roundg k1
  case measure => have := HK1.out; omega
  case rel => exact ⟨(t10), (wrap64 (x5_1 + 1)), Xr, Xr, H', Xk1, ⟨Xi⟩⟩
 obtain rfl := Xsi H
 go_wp2
 go_ret
 exact ⟨Xe, Xi⟩
def laws_szDoc.f (k : Nat) (a0_0 : Int) (a0_1 : Int) (l0_2 : List (S109)) (a1 : Int) : Option (Int) := (laws_szNodeS.f k l0_2 a1).bind fun t10 => (if t10 < 0 then (some (-1)) else (some t10))
theorem laws_szDoc.calls (k : Nat) (a0_0 : Int) (a0_1 : Int) (A0_2 : Option Addr) (c0_2 : Nat) (l0_2 : List (S109)) (a1 : Int) (r : Int) (w : World) (hr0_2 : Kd.C k109 w A0_2 l0_2.length l0_2) (hc0_2 : l0_2.length ≤ c0_2) (h : laws_szDoc.f k a0_0 a0_1 l0_2 a1 = some r) :
  Calls Tryz.prog 7 #[.agg #[.int .i64 a0_0, .int .i64 a0_1, .slice A0_2 l0_2.length c0_2], .int .i64 a1] w fun e w' => e = .returned (.int .i64 r) ∧ Below w.heap.size w w' := by
 have hu24 := Tryz.underlying24
 have HR0_2 := Am hr0_2
 have HC0_2 := Am hc0_2
 clear hr0_2 hc0_2
 have HB := Am (Below.refl w.heap.size w)
 have H : ((laws_szNodeS.f k l0_2 a1).bind fun t10 => (if t10 < 0 then (some (-1)) else (some t10))) = some r := h
 clear h
 obtain ⟨t10, A3, H⟩ := Xbi H
 try dsimp only at H
 have HC4 := Am H
 clear H
 go_enter Tryz.func7, Tryz.ntmps7
 go_upto_if 10 with (first | ((with_reducible refine gate_dst (N := 2) rfl ?_); refine Xbx 2 #[.int .i64 a0_0, .int .i64 a0_1, .slice A0_2 l0_2.length c0_2] 24 ?_; intro gb11 hg w5 B11 GE11 hb; replace HB := Xhb hb; clear hb hg; obtain ⟨Z6_0, Z6_1, Z6_2⟩ := Xc3 B11) | ((with_reducible refine gate_callee (f := 44) rfl ?_); refine Xgo 8 Tryz.func44 #[.slice A0_2 l0_2.length c0_2, .int .i64 a1] ?_; (with_reducible refine (laws_szNodeS.calls k _ _ l0_2 a1 t10 _ ?s1 ?s2 A3.out).mono ?_); (case s1 => exact Xc HR0_2); (case s2 => exact HC0_2.out); rintro e w7 ⟨rfl, hb⟩; refine ⟨_, rfl, ?_⟩; replace B11 := Xbb B11 hb; replace HB := Xhb hb; clear hb))
 have H := HC4.out
 clear HC4
 obtain ⟨c8b0, H⟩ | ⟨c8b0, H⟩ := Xit H
 ·(first | rw [c8b0] | (simp only [i64_w, i32_w]; rw [c8b0]) | skip)
  obtain rfl := Xsi H
  go_wp2
  go_ret
  exact ⟨Xe, Xi⟩
 (first | rw [c8b0] | (simp only [i64_w, i32_w]; rw [c8b0]) | skip)
 obtain rfl := Xsi H
 go_wp2
 go_ret
 exact ⟨Xe, Xi⟩
def laws_toIntS.l0 : Nat → List Int → List Int → Int → Option (List Int)
 | 0, _, _, _ => none
 | k + 1, x0, x3, x4 => if x4 < (x0.length : Int) then (if 0 ≤ x4 then (if x4 < (x3.length : Int) then (laws_toIntS.l0 k x0 (x3.set (x4 : Int).toNat (rd x0 x4)) (wrap64 (x4 + 1))) else (none)) else (none)) else (some x3)
def laws_toIntS.f (k : Nat) (l0 : List Int) : Option (List Int) := if 0 ≤ (l0.length : Int) then (if ((l0.length : Int) : Int).toNat ≤ 35184372088832 then (laws_toIntS.l0 k l0 (List.replicate ((l0.length : Int) : Int).toNat 0) 0) else (none)) else (none)
theorem laws_toIntS.calls (k : Nat) (A0 : Option Addr) (c0 : Nat) (l0 : List Int) (r : List Int) (w : World) (hr0 : Kd.C (Kd.int .i64) w A0 l0.length l0) (hc0 : l0.length ≤ c0) (h : laws_toIntS.f k l0 = some r) :
  Calls Tryz.prog 147 #[.slice A0 l0.length c0] w fun e w' => ∃ v0_ : Value, e = .returned (v0_) ∧ Kd.R (Kd.int .i64) 3 w' w.heap.size (fun _ => True) v0_ r ∧ Below w.heap.size w w' := by
 have HR0 := Am hr0
 have HC0 := Am hc0
 clear hr0 hc0
 have HB := Am (Below.refl w.heap.size w)
 have H : (if 0 ≤ (l0.length : Int) then (if ((l0.length : Int) : Int).toNat ≤ 35184372088832 then (laws_toIntS.l0 k l0 (List.replicate ((l0.length : Int) : Int).toNat 0) 0) else (none)) else (none)) = some r := h
 clear h
 obtain ⟨c2, H⟩ | ⟨c2, H⟩ := Xiu H
 ·have c2b0 := eq_true c2
  have c2b1 : decide (0 ≤ (l0.length : Int)) = true := decide_eq_true c2
  clear c2
  obtain ⟨c3, H⟩ := Xif H
  have c3b0 := eq_true c3
  have c3b1 : decide (((l0.length : Int) : Int).toNat ≤ 35184372088832) = true := decide_eq_true c3
  clear c3
  obtain ⟨y12, hy12⟩ : ∃ y_ : List Int, y_ = (List.replicate ((l0.length : Int) : Int).toNat 0) := ⟨_, rfl⟩
  replace H : (laws_toIntS.l0 k l0 y12 0) = some r := by first | (rw [hy12]; with_reducible exact H) | (have H2_ := (Option.bind_some _ _).symm.trans H; rw [hy12]; with_reducible exact H2_) | (have H2_ := (Option.bind_some _ _).symm.trans H; with_reducible exact H2_) | with_reducible exact H | (rw [hy12]; exact H) | exact H
  have Ny12 := Am hy12
  clear hy12
  have H' := Am H
  clear H
  go_enter Tryz.func147, Tryz.ntmps147
  go_wp2_with (first | ((with_reducible refine gate_dst (N := 7) rfl ?_); refine Kd.R_make (Kd.int .i64) _ 3 rfl (N := 7) rfl 30 _ _ rfl (l0.length : Int) rfl rfl Tryz.underlying30 (.int .i64 0) 8 info3 rfl (by decide) (by omega) 0 (ok := fun _ => True) (okp := fun _ => True) rfl (fun _ hk => hk) trivial (Xo) (Nat.le_trans (Nat.mul_le_mul_right _ (Xo : (l0.length : Int).toNat ≤ 35184372088832)) (by omega)) (Below.refl _ _) (Nat.le_refl _) ?_; intro v108 w4 ho5 hb hg_ hnew_; clear hg_ hnew_; (first | rw [← Ny12.out] at ho5 | (simp only [Int.reduceToNat] at ho5; rw [← Ny12.out] at ho5)); have HO13 := Am (Kd.R_lower ho5 (below_size Xi)); replace HB := Xhb hb; clear hb ho5))
  go_loopg [4] k (fun kq v4 w' => ∃ (x3_1 : List Int) (x4_1 : Int), v4 = .int .i64 x4_1 ∧ Aside0 (laws_toIntS.l0 kq l0 x3_1 x4_1 = some r) ∧ Aside0 (kq ≤ k) ∧ Aside0 (Kd.R (Kd.int .i64) 3 w' w.heap.size (fun _ => True) v108 x3_1) ∧ Aside0 (Below w.heap.size w w'))
  case atStart => exact ⟨(y12), (0), Xr, H', Xkr, (Xp' HO13), ⟨Xi⟩⟩
  clear H'
  (try clear c2); (try clear c2b0); (try clear c2b1); (try clear c3); (try clear c3b0); (try clear c3b1)
  obtain ⟨x3_1, x4_1, rfl, HA, HK1, O_3, HB⟩ := hrel
  cases gk with | zero => cases HA.out | succ k1 => ?_
  have H := HA.out
  clear HA
  simp only [laws_toIntS.l0] at H
  obtain ⟨c6b0, H⟩ | ⟨c6b0, H⟩ := Xit H
  ·obtain ⟨c7b0, H⟩ := Xid H
   obtain ⟨c8b0, H⟩ := Xid H
   obtain ⟨y14, hy14⟩ : ∃ y_ : List Int, y_ = (x3_1.set (x4_1 : Int).toNat (rd l0 x4_1)) := ⟨_, rfl⟩
   replace H : (laws_toIntS.l0 k1 l0 y14 (wrap64 (x4_1 + 1))) = some r := by first | (rw [hy14]; with_reducible exact H) | (have H2_ := (Option.bind_some _ _).symm.trans H; rw [hy14]; with_reducible exact H2_) | (have H2_ := (Option.bind_some _ _).symm.trans H; with_reducible exact H2_) | with_reducible exact H | (rw [hy14]; exact H) | exact H
   have Ny14 := Am hy14
   clear hy14
   have H' := Am H
   clear H
   have p15 : 0 ≤ (x4_1 : Int) := Xo
   have q15 : x4_1 < (l0.length : Int) := Xo
   obtain ⟨ad15, e15, hx15_0⟩ := Kd.at_int HR0.out x4_1 p15 q15
   cases e15
   replace hx15_0 := Xm HB hx15_0
   replace p15 := eq_true p15
   replace q15 := eq_true q15
   have p9 : 0 ≤ (x4_1 : Int) := Xo
   have q9 : (x4_1 : Int) < ((x3_1.length : Int) : Int) := Xo
   obtain ⟨go9, co9, eo9, gb9, gl9, cl9, HG9⟩ := Kd.R_form O_3.out (by omega)
   (first | cases eo9 | (injection eo9 with ea_ en_ ec_; (first | subst ea_ | (injection ea_ with ea_; subst ea_)); subst ec_; clear en_))
   have GB9 := Am gb9
   have GG9 := Am HG9
   clear gb9 gl9 HG9
   obtain ⟨hx9_0, hf9_0⟩ := Kd.R_celln 0 O_3.out (x4_1 : Int) p9 q9
   replace p9 := eq_true p9
   replace q9 := eq_true q9
   have HP10 := Kd.R_putg O_3.out (x4_1 : Int) (rd l0 x4_1)
   go_wp2_with (first | ((with_reducible refine gate_store (t := 3) (p := 20) rfl ?_); refine store_event (t := 3) (p := 20) (v := ?vo_w11) (w1 := (wr.setCell ⟨go9, (x4_1 : Int).toNat, none⟩ (.int .i64 (rd l0 x4_1)))) ?hg ?ho ?hn ?hr ?_; (case ho => rfl); (case hg => rfl); (case hn => rfl); (case hr => first | (go_simp; done) | (go_simp; rfl)); intro w11 hw; have hg : wr.grownBy w11 (some go9) := (by rw [hw]; exact HP10.2); have hp_ : Kd.R (Kd.int .i64) 3 w11 w.heap.size (fun _ => True) (.slice (some ⟨go9, 0, none⟩) x3_1.length co9) y14 := (by rw [hw, Ny14.out]; exact HP10.1); clear HP10; replace O_3 := Am (hp_); replace HB := Am ((by rw [hw]; exact below_set (HB.out) GB9.out : Below w.heap.size w w11)); clear hg hw hp_))
   go_roundg k1
   case measure => have := HK1.out; omega
   case rel => exact ⟨(y14), (wrap64 (x4_1 + 1)), Xr, H', Xk1, (Xp' O_3), ⟨Xi⟩⟩
  obtain rfl := Xsi H
  go_wp2
  go_ret
  exact ⟨_, Xe, Xq O_3, Xi⟩
 exact absurd H (by simp)
def laws_toNode.f (k : Nat) (a0_0 : Int) (a0_1 : Int) (a0_2 : Int) (a0_3 : ByteArray) (l0_4 : List Int) : Option (Int × Int × Int × ByteArray × List Int) := (laws_toIntS.f k l0_4).bind fun t10 => (some (a0_0, a0_1, a0_2, a0_3, t10))
theorem laws_toNode.calls (k : Nat) (a0_0 : Int) (a0_1 : Int) (a0_2 : Int) (a0_3 : ByteArray) (A0_4 : Option Addr) (c0_4 : Nat) (l0_4 : List Int) (r1 : Int) (r2 : Int) (r3 : Int) (r4 : ByteArray) (r5 : List Int) (w : World) (hr0_4 : Kd.C (Kd.int .i64) w A0_4 l0_4.length l0_4) (hc0_4 : l0_4.length ≤ c0_4) (h : laws_toNode.f k a0_0 a0_1 a0_2 a0_3 l0_4 = some (r1, r2, r3, r4, r5)) :
  Calls Tryz.prog 92 #[.agg #[.int .i64 a0_0, .int .i64 a0_1, .int .i64 a0_2, .string a0_3, .slice A0_4 l0_4.length c0_4]] w fun e w' => ∃ v4_ : Value, e = .returned (.agg #[.int .i64 r1, .int .i64 r2, .int .i64 r3, .string r4, v4_]) ∧ Kd.R (Kd.int .i64) 3 w' w.heap.size (fun _ => True) v4_ r5 ∧ Below w.heap.size w w' := by
 have hu109 := Tryz.underlying109
 have hu113 := Tryz.underlying113
 have HR0_4 := Am hr0_4
 have HC0_4 := Am hc0_4
 clear hr0_4 hc0_4
 have HB := Am (Below.refl w.heap.size w)
 have H : ((laws_toIntS.f k l0_4).bind fun t16 => (some (a0_0, a0_1, a0_2, a0_3, t16))) = some (r1, r2, r3, r4, r5) := h
 clear h
 obtain ⟨t16, A2, H⟩ := Xbi H
 try dsimp only at H
 simp only [Option.some.injEq, Prod.mk.injEq] at H
 obtain ⟨rfl, rfl, rfl, rfl, rfl⟩ := H
 go_enter Tryz.func92, Tryz.ntmps92
 go_wp2_with (first | ((with_reducible refine gate_dst (N := 1) rfl ?_); refine Xbx 1 #[.int .i64 a0_0, .int .i64 a0_1, .int .i64 a0_2, .string a0_3, .slice A0_4 l0_4.length c0_4] 109 ?_; intro gb17 hg w3 B17 GE17 hb; replace HB := Xhb hb; clear hb hg) | ((with_reducible refine gate_dst (N := 2) rfl ?_); refine Xbx 2 #[.int .i64 0, .int .i64 0, .int .i64 0, .string (⟨#[]⟩ : ByteArray), .slice none 0 0] 113 ?_; intro gb18 hg w4 B18 GE18 hb; replace HB := Xhb hb; have NB17_18 := Xnb hg B17; have NB18_17 := Xns NB17_18; replace B17 := Xbb B17 hb; clear hb hg) | ((with_reducible refine gate_dst (N := 3) rfl ?_); refine Xbx 3 #[.int .i64 0, .int .i64 0, .int .i64 0, .string (⟨#[]⟩ : ByteArray), .slice none 0 0] 113 ?_; intro gb19 hg w5 B19 GE19 hb; replace HB := Xhb hb; have NB17_19 := Xnb hg B17; have NB19_17 := Xns NB17_19; replace B17 := Xbb B17 hb; have NB18_19 := Xnb hg B18; have NB19_18 := Xns NB18_19; replace B18 := Xbb B18 hb; clear hb hg; have hnb6 := NB17_18.out; have hnc6 := NB18_17.out; have hnb7 := NB17_19.out; have hnc7 := NB19_17.out; obtain ⟨Z8_0, Z8_1, Z8_2, Z8_3, Z8_4⟩ := Xc5 B17; obtain ⟨F8_0, F8_1, F8_2, F8_3, F8_4⟩ := Xf5 B17; have hnb9 := NB19_18.out; have hnc9 := NB18_19.out; obtain ⟨Z10_0, Z10_1, Z10_2, Z10_3, Z10_4⟩ := Xc5 B19; obtain ⟨F10_0, F10_1, F10_2, F10_3, F10_4⟩ := Xf5 B19) | ((with_reducible refine gate_callee (f := 147) rfl ?_); refine Xgo 18 Tryz.func147 #[.slice A0_4 l0_4.length c0_4] ?_; (with_reducible refine (laws_toIntS.calls k _ _ l0_4 t16 _ ?s1 ?s2 A2.out).mono ?_); (case s1 => exact Xc HR0_4); (case s2 => exact HC0_4.out); rintro e w11 ⟨v116, rfl, ho0, hb⟩; refine ⟨_, rfl, ?_⟩; have HO20 := Am (Kd.R_lower ho0 (below_size Xi)); replace B17 := Am (blk_below (g := gb17) (o := .cells #[.int .i64 a0_0, .int .i64 a0_1, .int .i64 a0_2, .string a0_3, .slice A0_4 l0_4.length c0_4] 109 (0, 0)) (by refine Xu ?_; refine blk_far ?_ NB17_19.out _; refine Xu ?_; refine blk_far ?_ NB17_19.out _; refine Xu ?_; refine blk_far ?_ NB17_19.out _; refine Xu ?_; refine blk_far ?_ NB17_19.out _; refine Xu ?_; exact B17.out) hb); replace B18 := Am (blk_below (g := gb18) (o := .cells #[.int .i64 0, .int .i64 0, .int .i64 0, .string (⟨#[]⟩ : ByteArray), .slice none 0 0] 113 (0, 0)) (by refine Xu ?_; refine blk_far ?_ NB18_19.out _; refine Xu ?_; refine blk_far ?_ NB18_19.out _; refine Xu ?_; refine blk_far ?_ NB18_19.out _; refine Xu ?_; refine blk_far ?_ NB18_19.out _; refine Xu ?_; exact B18.out) hb); replace B19 := Am (blk_below (g := gb19) (o := .cells #[.int .i64 a0_0, .int .i64 a0_1, .int .i64 a0_2, .string a0_3, .slice none 0 0] 113 (0, 0)) (by refine Xu ?_; refine blk_put (cs := #[.int .i64 a0_0, .int .i64 a0_1, .int .i64 a0_2, .string (⟨#[]⟩ : ByteArray), .slice none 0 0]) ?_ 3 _ rfl; refine Xu ?_; refine blk_put (cs := #[.int .i64 a0_0, .int .i64 a0_1, .int .i64 0, .string (⟨#[]⟩ : ByteArray), .slice none 0 0]) ?_ 2 _ rfl; refine Xu ?_; refine blk_put (cs := #[.int .i64 a0_0, .int .i64 0, .int .i64 0, .string (⟨#[]⟩ : ByteArray), .slice none 0 0]) ?_ 1 _ rfl; refine Xu ?_; refine blk_put (cs := #[.int .i64 0, .int .i64 0, .int .i64 0, .string (⟨#[]⟩ : ByteArray), .slice none 0 0]) ?_ 0 _ rfl; refine Xu ?_; exact B19.out) hb); replace HB := Xhb hb; clear hb; (try clear ho0); obtain ⟨Ao12, co12, eo12⟩ := Kd.R_slice HO20.out; subst eo12; obtain ⟨Z13_0, Z13_1, Z13_2, Z13_3, Z13_4⟩ := Xc5 B19; obtain ⟨F13_0, F13_1, F13_2, F13_3, F13_4⟩ := Xf5 B19; obtain ⟨Z14_0, Z14_1, Z14_2, Z14_3, Z14_4⟩ := Xc5 B18; obtain ⟨F14_0, F14_1, F14_2, F14_3, F14_4⟩ := Xf5 B18) | ((with_reducible refine gate_store (t := 113) (p := 2) rfl ?_); refine store_event (t := 113) (p := 2) (v := ?vo_w15) (w1 := ((((((w11.setCell ⟨gb19, 4, none⟩ (.slice Ao12 t16.length co12)).setCell ⟨gb18, 0, none⟩ (.int .i64 a0_0)).setCell ⟨gb18, 1, none⟩ (.int .i64 a0_1)).setCell ⟨gb18, 2, none⟩ (.int .i64 a0_2)).setCell ⟨gb18, 3, none⟩ (.string a0_3)).setCell ⟨gb18, 4, none⟩ (.slice Ao12 t16.length co12))) ?hg ?ho ?hn ?hr ?_; (case ho => rfl); (case hg => rfl); (case hn => rfl); (case hr => first | (go_simp; done) | (go_simp; rfl)); intro w15 hw; have n0_ : Aside0 (Kd.R (Kd.int .i64) 3 w15 w.heap.size (fun _ => True) (.slice Ao12 t16.length co12) t16) := ⟨(by rw [hw]; exact (by (with_reducible repeat (first | apply Kd.R_alloc | apply Kd.R_drewN | apply Kd.R_drew)); exact Kd.R_mono (Kd.R_far (p := ⟨gb18, 4, none⟩) (Kd.R_far (p := ⟨gb18, 3, none⟩) (Kd.R_far (p := ⟨gb18, 2, none⟩) (Kd.R_far (p := ⟨gb18, 1, none⟩) (Kd.R_far (p := ⟨gb18, 0, none⟩) (Kd.R_far (p := ⟨gb19, 4, none⟩) (Kd.R_types (Kd.R_types HO20.out B19.out (by decide)) B18.out (by decide)) (fun _ hk => hk.1.2) (.slice Ao12 t16.length co12)) (fun _ hk => hk.2) (.int .i64 a0_0)) (fun _ hk => hk.2) (.int .i64 a0_1)) (fun _ hk => hk.2) (.int .i64 a0_2)) (fun _ hk => hk.2) (.string a0_3)) (fun _ hk => hk.2) (.slice Ao12 t16.length co12)) (fun _ hk => trivial)))⟩; have n1_ : Aside0 (w15.heap[gb17]? = some (.cells #[.int .i64 a0_0, .int .i64 a0_1, .int .i64 a0_2, .string a0_3, .slice A0_4 l0_4.length c0_4] 109 (0, 0))) := ⟨(by rw [hw]; exact (by refine Xu ?_; refine blk_far ?_ NB17_18.out _; refine Xu ?_; refine blk_far ?_ NB17_18.out _; refine Xu ?_; refine blk_far ?_ NB17_18.out _; refine Xu ?_; refine blk_far ?_ NB17_18.out _; refine Xu ?_; refine blk_far ?_ NB17_18.out _; refine Xu ?_; refine blk_far ?_ NB17_19.out _; refine Xu ?_; exact B17.out))⟩; have n2_ : Aside0 (w15.heap[gb18]? = some (.cells #[.int .i64 a0_0, .int .i64 a0_1, .int .i64 a0_2, .string a0_3, .slice Ao12 t16.length co12] 113 (0, 0))) := ⟨(by rw [hw]; exact (by refine Xu ?_; refine blk_put (cs := #[.int .i64 a0_0, .int .i64 a0_1, .int .i64 a0_2, .string a0_3, .slice none 0 0]) ?_ 4 _ rfl; refine Xu ?_; refine blk_put (cs := #[.int .i64 a0_0, .int .i64 a0_1, .int .i64 a0_2, .string (⟨#[]⟩ : ByteArray), .slice none 0 0]) ?_ 3 _ rfl; refine Xu ?_; refine blk_put (cs := #[.int .i64 a0_0, .int .i64 a0_1, .int .i64 0, .string (⟨#[]⟩ : ByteArray), .slice none 0 0]) ?_ 2 _ rfl; refine Xu ?_; refine blk_put (cs := #[.int .i64 a0_0, .int .i64 0, .int .i64 0, .string (⟨#[]⟩ : ByteArray), .slice none 0 0]) ?_ 1 _ rfl; refine Xu ?_; refine blk_put (cs := #[.int .i64 0, .int .i64 0, .int .i64 0, .string (⟨#[]⟩ : ByteArray), .slice none 0 0]) ?_ 0 _ rfl; refine Xu ?_; refine blk_far ?_ NB18_19.out _; refine Xu ?_; exact B18.out))⟩; have n3_ : Aside0 (w15.heap[gb19]? = some (.cells #[.int .i64 a0_0, .int .i64 a0_1, .int .i64 a0_2, .string a0_3, .slice Ao12 t16.length co12] 113 (0, 0))) := ⟨(by rw [hw]; exact (by refine Xu ?_; refine blk_far ?_ NB19_18.out _; refine Xu ?_; refine blk_far ?_ NB19_18.out _; refine Xu ?_; refine blk_far ?_ NB19_18.out _; refine Xu ?_; refine blk_far ?_ NB19_18.out _; refine Xu ?_; refine blk_far ?_ NB19_18.out _; refine Xu ?_; refine blk_put (cs := #[.int .i64 a0_0, .int .i64 a0_1, .int .i64 a0_2, .string a0_3, .slice none 0 0]) ?_ 4 _ rfl; refine Xu ?_; exact B19.out))⟩; have n4_ : Aside0 (Below w.heap.size w w15) := ⟨(by rw [hw]; exact Xi)⟩; clear hw; clear HO20; clear B17; clear B18; clear B19; clear HB; have HO20 := n0_; have B17 := n1_; have B18 := n2_; have B19 := n3_; have HB := n4_; clear n0_ n1_ n2_ n3_ n4_))
 refine bodyPost_ret (results_cell_row rfl _ _ gb18 113 #[.int .i64 a0_0, .int .i64 a0_1, .int .i64 a0_2, .string a0_3, .slice Ao12 t16.length co12] (0, 0) _ rfl B18.out Tryz.underlying113 rfl (by kernel_rfl)) rfl ?_
 exact ⟨_, Xe, Xq HO20, Xi⟩
def laws_toNodeS.l0 : Nat → List (S109) → List (S113) → Int → Option ((List (S113)))
 | 0, _, _, _ => none
 | k + 1, x0, x3, x4 => if x4 < (x0.length : Int) then (if 0 ≤ x4 then ((laws_toNode.f k ((rd_T109 x0 x4).f0) ((rd_T109 x0 x4).f1) ((rd_T109 x0 x4).f2) ((rd_T109 x0 x4).f3) ((rd_T109 x0 x4).f4)).bind fun bt122 => (if x4 < (x3.length : Int) then (laws_toNodeS.l0 k x0 (x3.set (x4 : Int).toNat (⟨bt122.1, bt122.2.1, bt122.2.2.1, bt122.2.2.2.1, bt122.2.2.2.2⟩ : S113)) (wrap64 (x4 + 1))) else (none))) else (none)) else (some x3)
def laws_toNodeS.f (k : Nat) (l0 : List (S109)) : Option ((List (S113))) := if 0 ≤ (l0.length : Int) then (if ((l0.length : Int) : Int).toNat ≤ 4398046511104 then (laws_toNodeS.l0 k l0 (List.replicate ((l0.length : Int) : Int).toNat z113) 0) else (none)) else (none)
theorem laws_toNodeS.calls (k : Nat) (A0 : Option Addr) (c0 : Nat) (l0 : List (S109)) (r : List (S113)) (w : World) (hr0 : Kd.C k109 w A0 l0.length l0) (hc0 : l0.length ≤ c0) (h : laws_toNodeS.f k l0 = some r) :
  Calls Tryz.prog 48 #[.slice A0 l0.length c0] w fun e w' => ∃ v0_ : Value, e = .returned (v0_) ∧ Kd.S k113 113 w' w.heap.size (fun _ => True) v0_ r ∧ Below w.heap.size w w' := by
 have hu109 := Tryz.underlying109
 have hu113 := Tryz.underlying113
 have HR0 := Am hr0
 have HC0 := Am hc0
 clear hr0 hc0
 have HB := Am (Below.refl w.heap.size w)
 have H : (if 0 ≤ (l0.length : Int) then (if ((l0.length : Int) : Int).toNat ≤ 4398046511104 then (laws_toNodeS.l0 k l0 (List.replicate ((l0.length : Int) : Int).toNat z113) 0) else (none)) else (none)) = some r := h
 clear h
 obtain ⟨c2, H⟩ | ⟨c2, H⟩ := Xiu H
 ·have c2b0 := eq_true c2
  have c2b1 : decide (0 ≤ (l0.length : Int)) = true := decide_eq_true c2
  clear c2
  obtain ⟨c3, H⟩ := Xif H
  have c3b0 := eq_true c3
  have c3b1 : decide (((l0.length : Int) : Int).toNat ≤ 4398046511104) = true := decide_eq_true c3
  clear c3
  obtain ⟨y14, hy14⟩ : ∃ y_ : List (S113), y_ = (List.replicate ((l0.length : Int) : Int).toNat z113) := ⟨_, rfl⟩
  replace H : (laws_toNodeS.l0 k l0 y14 0) = some r := by first | (rw [hy14]; with_reducible exact H) | (have H2_ := (Option.bind_some _ _).symm.trans H; rw [hy14]; with_reducible exact H2_) | (have H2_ := (Option.bind_some _ _).symm.trans H; with_reducible exact H2_) | with_reducible exact H | (rw [hy14]; exact H) | exact H
  have Ny14 := Am hy14
  clear hy14
  have H' := Am H
  clear H
  go_enter Tryz.func48, Tryz.ntmps48
  go_wp2_with (first | ((with_reducible refine gate_dst (N := 7) rfl ?_); refine Kd.S_make k113 _ 113 rfl (N := 7) rfl 33 _ _ rfl (l0.length : Int) rfl rfl Tryz.underlying33 (.agg #[(.int .i64 0), (.int .i64 0), (.int .i64 0), (.string ⟨#[]⟩), (.slice none 0 0)]) 64 info113 rfl (by decide) (by omega) z113 (ok := fun _ => True) (okp := fun _ => True) (k113_mkM _ _ _ z113 (Kd.R_nil _ _ _ _ _)) (fun _ hk => hk) trivial (Xo) (Nat.le_trans (Nat.mul_le_mul_right _ (Xo : (l0.length : Int).toNat ≤ 4398046511104)) (by omega)) (Below.refl _ _) (Nat.le_refl _) ?_; intro v119 w4 ho5 hb hg_ hnew_; clear hg_ hnew_; (first | rw [← Ny14.out] at ho5 | (simp only [Int.reduceToNat] at ho5; rw [← Ny14.out] at ho5)); have HO15 := Am (Kd.S_lower ho5 (below_size Xi)); replace HB := Xhb hb; clear hb ho5))
  go_loopg [4] k (fun kq v4 w' => ∃ (x3_1 : List (S113)) (x4_1 : Int), v4 = .int .i64 x4_1 ∧ Aside0 (laws_toNodeS.l0 kq l0 x3_1 x4_1 = some r) ∧ Aside0 (kq ≤ k) ∧ Aside0 (Kd.S k113 113 w' w.heap.size (fun _ => True) v119 x3_1) ∧ Aside0 (Below w.heap.size w w'))
  case atStart => exact ⟨(y14), (0), Xr, H', Xkr, (Xp' HO15), ⟨Xi⟩⟩
  clear H'
  (try clear c2); (try clear c2b0); (try clear c2b1); (try clear c3); (try clear c3b0); (try clear c3b1)
  obtain ⟨x3_1, x4_1, rfl, HA, HK1, O_3, HB⟩ := hrel
  cases gk with | zero => cases HA.out | succ k1 => ?_
  have H := HA.out
  clear HA
  simp only [laws_toNodeS.l0] at H
  obtain ⟨c6b0, H⟩ | ⟨c6b0, H⟩ := Xit H
  ·obtain ⟨c7b0, H⟩ := Xid H
   replace H := Option.bind_eq_some_iff.mp H
   obtain ⟨⟨t16, t17, t18, t19, t20⟩, A80, H⟩ := H
   try dsimp only at H
   have A8 := Am A80
   clear A80
   obtain ⟨c9b0, H⟩ := Xid H
   obtain ⟨y21, hy21⟩ : ∃ y_ : List (S113), y_ = (x3_1.set (x4_1 : Int).toNat (⟨t16, t17, t18, t19, t20⟩ : S113)) := ⟨_, rfl⟩
   replace H : (laws_toNodeS.l0 k1 l0 y21 (wrap64 (x4_1 + 1))) = some r := by first | (rw [hy21]; with_reducible exact H) | (have H2_ := (Option.bind_some _ _).symm.trans H; rw [hy21]; with_reducible exact H2_) | (have H2_ := (Option.bind_some _ _).symm.trans H; with_reducible exact H2_) | with_reducible exact H | (rw [hy21]; exact H) | exact H
   have Ny21 := Am hy21
   clear hy21
   have H' := Am H
   clear H
   obtain ⟨ad22, A121_4, c121_4, e22, p22, q22, hx22_0, hx22_1, hx22_2, hx22_3, hx22_4, HC22_4, HR22_4⟩ := at_B109 HR0 x4_1 Xa Xa HB
   cases e22
   go_wp2_with (first | ((with_reducible refine gate_callee (f := 92) rfl ?_); refine Xgo 20 Tryz.func92 #[.agg #[.int .i64 ((rd_T109 l0 x4_1).f0), .int .i64 ((rd_T109 l0 x4_1).f1), .int .i64 ((rd_T109 l0 x4_1).f2), .string ((rd_T109 l0 x4_1).f3), .slice A121_4 ((rd_T109 l0 x4_1).f4).length c121_4]] ?_; (with_reducible refine (laws_toNode.calls k1 ((rd_T109 l0 x4_1).f0) ((rd_T109 l0 x4_1).f1) ((rd_T109 l0 x4_1).f2) ((rd_T109 l0 x4_1).f3) _ _ ((rd_T109 l0 x4_1).f4) t16 t17 t18 t19 t20 _ ?s1 ?s2 A8.out).mono ?_); (case s1 => exact Xc HR22_4); (case s2 => exact HC22_4.out); rintro e w11 ⟨v127, rfl, ho0, hb⟩; refine ⟨_, rfl, ?_⟩; replace O_3 := Am (Kd.S_elder' (Xq O_3) (Kd.R_base ho0) hb); have HO23 := Am (Kd.R_lower ho0 (below_size Xi)); replace HB := Xhb hb; clear hb; (try clear ho0); have p10 : 0 ≤ (x4_1 : Int) := Xo; have q10 : (x4_1 : Int) < ((x3_1.length : Int) : Int) := Xo; obtain ⟨go10, co10, eo10, gb10, gl10, cl10, HG10⟩ := Kd.S_form O_3.out (by omega); (first | cases eo10 | (injection eo10 with ea_ en_ ec_; (first | subst ea_ | (injection ea_ with ea_; subst ea_)); subst ec_; clear en_)); have GB10 := Am gb10; have GG10 := Am HG10; clear gb10 gl10 HG10; obtain ⟨_, ce10, hcl10, hM10, hcc10, hfr10, _, _⟩ := Kd.S_elem O_3.out z113 (x4_1 : Int) p10 q10; obtain ⟨ve10_4, rfl, ge10_4⟩ := k113_openM hM10; have hx10_0 : w11.cell? ⟨go10, (x4_1 : Int).toNat * 5, none⟩ = some (.int .i64 ((rd_T113 x3_1 x4_1).f0)) := hcc10 0 _ rfl; have hx10_1 : w11.cell? ⟨go10, (x4_1 : Int).toNat * 5 + 1, none⟩ = some (.int .i64 ((rd_T113 x3_1 x4_1).f1)) := hcc10 1 _ rfl; have hx10_2 : w11.cell? ⟨go10, (x4_1 : Int).toNat * 5 + 2, none⟩ = some (.int .i64 ((rd_T113 x3_1 x4_1).f2)) := hcc10 2 _ rfl; have hx10_3 : w11.cell? ⟨go10, (x4_1 : Int).toNat * 5 + 3, none⟩ = some (.string ((rd_T113 x3_1 x4_1).f3)) := hcc10 3 _ rfl; have hx10_4 : w11.cell? ⟨go10, (x4_1 : Int).toNat * 5 + 4, none⟩ = some (ve10_4) := hcc10 4 _ rfl; have hf10_0 : w11.frozen? ⟨go10, (x4_1 : Int).toNat * 5, none⟩ = false := hfr10 0; have hf10_1 : w11.frozen? ⟨go10, (x4_1 : Int).toNat * 5 + 1, none⟩ = false := hfr10 1; have hf10_2 : w11.frozen? ⟨go10, (x4_1 : Int).toNat * 5 + 2, none⟩ = false := hfr10 2; have hf10_3 : w11.frozen? ⟨go10, (x4_1 : Int).toNat * 5 + 3, none⟩ = false := hfr10 3; have hf10_4 : w11.frozen? ⟨go10, (x4_1 : Int).toNat * 5 + 4, none⟩ = false := hfr10 4; clear hcl10 hcc10 hfr10; (try clear hM10); replace p10 := eq_true p10; replace q10 := eq_true q10; have n_ := Am (Kd.S_mono (ok' := (fun k_ => some k_ ≠ (v127 : Value).ownBlock)) O_3.out (fun k_ hk => hk.2)); clear O_3; have O_3 := n_; clear n_; have HX12 := Am (show Kd.S k113 113 w11 w.heap.size (fun k_ => ((fun _ => True)) k_ ∧ ¬ ((fun k_ => some k_ = (v127 : Value).ownBlock)) k_) (.slice (some ⟨go10, 0, none⟩) x3_1.length co10) x3_1 from (by (with_reducible repeat (first | apply Kd.S_alloc | apply Kd.S_drewN | apply Kd.S_drew)); exact Kd.S_mono O_3.out (fun k_ hk => ⟨trivial, fun e_ => hk e_⟩))); obtain ⟨oki12, ce12, hcl12, hM12, hcc12, hfr12, hoki12, hH12⟩ := Kd.S_elem HX12.out z113 (x4_1 : Int) (Xo) (by have h_ : (x4_1 : Int) < ((x3_1.length : Int) : Int) := Xo; first | exact h_ | (have e_ := (Kd.S_reads' O_3.out).1; omega) | simpa using h_); obtain ⟨ve12_4, rfl, ge12_4⟩ := k113_openM hM12; have HP12 := Kd.S_seg hH12 (Xo) (by have h_ : (x4_1 : Int) < ((x3_1.length : Int) : Int) := Xo; first | exact h_ | (have e_ := (Kd.S_reads' O_3.out).1; omega) | simpa using h_) (seg := [.int .i64 t16, .int .i64 t17, .int .i64 t18, .string t19, v127]) (j := 0) (show 5 ≤ 5 from by decide) (x' := (⟨t16, t17, t18, t19, t20⟩ : S113)) (k113_mkM _ _ _ (⟨t16, t17, t18, t19, t20⟩ : S113) (Kd.R_mono (Kd.R_tight rfl (Kd.R_mono (ok' := fun k_ => ((fun _ => True)) k_ ∧ k_ ≠ go10) (Kd.R_apart' (HO23.out) (Kd.S_typed O_3.out) (by decide)) (fun k_ hk => ⟨trivial, fun e_ => (hk.2) (by rw [e_]; rfl)⟩))) (fun _ h_ => Or.inr (h_)))) (fun _ hk => hk) (fun k_ hk_ => ((Kd.R_mono (ok' := fun k_ => ((fun _ => True)) k_ ∧ k_ ≠ go10) (Kd.R_apart' (HO23.out) (Kd.S_typed O_3.out) (by decide)) (fun k_ hk => ⟨trivial, fun e_ => (hk.2) (by rw [e_]; rfl)⟩))).1 k_ hk_.symm); have hx12_0 := hcc12 0 _ rfl; (try simp only [show (k113).sz = 5 from rfl, Nat.mul_one, Nat.add_zero] at hx12_0); have hf12_0 := hfr12 0; (try simp only [show (k113).sz = 5 from rfl, Nat.mul_one, Nat.add_zero] at hf12_0); have hx12_1 := hcc12 1 _ rfl; (try simp only [show (k113).sz = 5 from rfl, Nat.mul_one, Nat.add_zero] at hx12_1); have hf12_1 := hfr12 1; (try simp only [show (k113).sz = 5 from rfl, Nat.mul_one, Nat.add_zero] at hf12_1); have hx12_2 := hcc12 2 _ rfl; (try simp only [show (k113).sz = 5 from rfl, Nat.mul_one, Nat.add_zero] at hx12_2); have hf12_2 := hfr12 2; (try simp only [show (k113).sz = 5 from rfl, Nat.mul_one, Nat.add_zero] at hf12_2); have hx12_3 := hcc12 3 _ rfl; (try simp only [show (k113).sz = 5 from rfl, Nat.mul_one, Nat.add_zero] at hx12_3); have hf12_3 := hfr12 3; (try simp only [show (k113).sz = 5 from rfl, Nat.mul_one, Nat.add_zero] at hf12_3); have hx12_4 := hcc12 4 _ rfl; (try simp only [show (k113).sz = 5 from rfl, Nat.mul_one, Nat.add_zero] at hx12_4); have hf12_4 := hfr12 4; (try simp only [show (k113).sz = 5 from rfl, Nat.mul_one, Nat.add_zero] at hf12_4); clear hcl12 hcc12 hfr12 hoki12 hH12; (try clear hM12)) | ((with_reducible refine gate_store (t := 113) (p := 21) rfl ?_); refine store_event (t := 113) (p := 21) (v := ?vo_w13) (w1 := (((((w11.setCell ⟨go10, (x4_1 : Int).toNat * 5, none⟩ (.int .i64 t16)).setCell ⟨go10, (x4_1 : Int).toNat * 5 + 1, none⟩ (.int .i64 t17)).setCell ⟨go10, (x4_1 : Int).toNat * 5 + 2, none⟩ (.int .i64 t18)).setCell ⟨go10, (x4_1 : Int).toNat * 5 + 3, none⟩ (.string t19)).setCell ⟨go10, (x4_1 : Int).toNat * 5 + 4, none⟩ (v127))) ?hg ?ho ?hn ?hr ?_; (case ho => rfl); (case hg => rfl); (case hn => rfl); (case hr => first | (go_simp; done) | (go_simp; rfl) | (obtain ⟨_, _, hz0_⟩ := Kd.R_slice HO23.out; subst hz0_; first | (go_simp; done) | (go_simp; rfl))); intro w13 hw; have hg : w11.grownBy w13 (some go10) := (by rw [hw]; exact HP12.2); have hp_ : Kd.S k113 113 w13 w.heap.size (fun _ => True) (.slice (some ⟨go10, 0, none⟩) x3_1.length co10) y21 := (by rw [hw, Ny21.out]; exact HP12.1); clear HP12; replace O_3 := Am (hp_); replace HB := Am ((by rw [hw]; exact below_set (below_set (below_set (below_set (below_set (HB.out) GB10.out) GB10.out) GB10.out) GB10.out) GB10.out : Below w.heap.size w w13)); clear HO23; clear hg hw hp_))
   go_roundg k1
   case measure => have := HK1.out; omega
   case rel => exact ⟨(y21), (wrap64 (x4_1 + 1)), Xr, H', Xk1, (Xp' O_3), ⟨Xi⟩⟩
  obtain rfl := Xsi H
  go_wp2
  go_ret
  exact ⟨_, Xe, Xq O_3, Xi⟩
 exact absurd H (by simp)
def laws_toDoc.f (k : Nat) (a0_0 : Int) (a0_1 : Int) (l0_2 : List (S109)) : Option (Int × Int × (List (S113))) := (laws_toNodeS.f k l0_2).bind fun t10 => (some (a0_0, a0_1, t10))
theorem laws_toDoc.calls (k : Nat) (a0_0 : Int) (a0_1 : Int) (A0_2 : Option Addr) (c0_2 : Nat) (l0_2 : List (S109)) (r1 : Int) (r2 : Int) (r3 : List (S113)) (w : World) (hr0_2 : Kd.C k109 w A0_2 l0_2.length l0_2) (hc0_2 : l0_2.length ≤ c0_2) (h : laws_toDoc.f k a0_0 a0_1 l0_2 = some (r1, r2, r3)) :
  Calls Tryz.prog 10 #[.agg #[.int .i64 a0_0, .int .i64 a0_1, .slice A0_2 l0_2.length c0_2]] w fun e w' => ∃ v2_ : Value, e = .returned (.agg #[.int .i64 r1, .int .i64 r2, v2_]) ∧ Kd.S k113 113 w' w.heap.size (fun _ => True) v2_ r3 ∧ Below w.heap.size w w' := by
 have hu24 := Tryz.underlying24
 have hu35 := Tryz.underlying35
 have HR0_2 := Am hr0_2
 have HC0_2 := Am hc0_2
 clear hr0_2 hc0_2
 have HB := Am (Below.refl w.heap.size w)
 have H : ((laws_toNodeS.f k l0_2).bind fun t16 => (some (a0_0, a0_1, t16))) = some (r1, r2, r3) := h
 clear h
 obtain ⟨t16, A2, H⟩ := Xbi H
 try dsimp only at H
 simp only [Option.some.injEq, Prod.mk.injEq] at H
 obtain ⟨rfl, rfl, rfl⟩ := H
 go_enter Tryz.func10, Tryz.ntmps10
 go_wp2_with (first | ((with_reducible refine gate_dst (N := 1) rfl ?_); refine Xbx 1 #[.int .i64 a0_0, .int .i64 a0_1, .slice A0_2 l0_2.length c0_2] 24 ?_; intro gb17 hg w3 B17 GE17 hb; replace HB := Xhb hb; clear hb hg) | ((with_reducible refine gate_dst (N := 2) rfl ?_); refine Xbx 2 #[.int .i64 0, .int .i64 0, .slice none 0 0] 35 ?_; intro gb18 hg w4 B18 GE18 hb; replace HB := Xhb hb; have NB17_18 := Xnb hg B17; have NB18_17 := Xns NB17_18; replace B17 := Xbb B17 hb; clear hb hg) | ((with_reducible refine gate_dst (N := 3) rfl ?_); refine Xbx 3 #[.int .i64 0, .int .i64 0, .slice none 0 0] 35 ?_; intro gb19 hg w5 B19 GE19 hb; replace HB := Xhb hb; have NB17_19 := Xnb hg B17; have NB19_17 := Xns NB17_19; replace B17 := Xbb B17 hb; have NB18_19 := Xnb hg B18; have NB19_18 := Xns NB18_19; replace B18 := Xbb B18 hb; clear hb hg; have hnb6 := NB17_18.out; have hnc6 := NB18_17.out; have hnb7 := NB17_19.out; have hnc7 := NB19_17.out; obtain ⟨Z8_0, Z8_1, Z8_2⟩ := Xc3 B17; obtain ⟨F8_0, F8_1, F8_2⟩ := Xf3 B17; have hnb9 := NB19_18.out; have hnc9 := NB18_19.out; obtain ⟨Z10_0, Z10_1, Z10_2⟩ := Xc3 B19; obtain ⟨F10_0, F10_1, F10_2⟩ := Xf3 B19) | ((with_reducible refine gate_callee (f := 48) rfl ?_); refine Xgo 12 Tryz.func48 #[.slice A0_2 l0_2.length c0_2] ?_; (with_reducible refine (laws_toNodeS.calls k _ _ l0_2 t16 _ ?s1 ?s2 A2.out).mono ?_); (case s1 => exact Xc HR0_2); (case s2 => exact HC0_2.out); rintro e w11 ⟨v134, rfl, ho0, hb⟩; refine ⟨_, rfl, ?_⟩; have HO20 := Am (Kd.S_lower ho0 (below_size Xi)); replace B17 := Am (blk_below (g := gb17) (o := .cells #[.int .i64 a0_0, .int .i64 a0_1, .slice A0_2 l0_2.length c0_2] 24 (0, 0)) (by refine Xu ?_; refine blk_far ?_ NB17_19.out _; refine Xu ?_; refine blk_far ?_ NB17_19.out _; refine Xu ?_; exact B17.out) hb); replace B18 := Am (blk_below (g := gb18) (o := .cells #[.int .i64 0, .int .i64 0, .slice none 0 0] 35 (0, 0)) (by refine Xu ?_; refine blk_far ?_ NB18_19.out _; refine Xu ?_; refine blk_far ?_ NB18_19.out _; refine Xu ?_; exact B18.out) hb); replace B19 := Am (blk_below (g := gb19) (o := .cells #[.int .i64 a0_0, .int .i64 a0_1, .slice none 0 0] 35 (0, 0)) (by refine Xu ?_; refine blk_put (cs := #[.int .i64 a0_0, .int .i64 0, .slice none 0 0]) ?_ 1 _ rfl; refine Xu ?_; refine blk_put (cs := #[.int .i64 0, .int .i64 0, .slice none 0 0]) ?_ 0 _ rfl; refine Xu ?_; exact B19.out) hb); replace HB := Xhb hb; clear hb; (try clear ho0); obtain ⟨Ao12, co12, eo12⟩ := Kd.S_slice HO20.out; subst eo12; obtain ⟨Z13_0, Z13_1, Z13_2⟩ := Xc3 B19; obtain ⟨F13_0, F13_1, F13_2⟩ := Xf3 B19; obtain ⟨Z14_0, Z14_1, Z14_2⟩ := Xc3 B18; obtain ⟨F14_0, F14_1, F14_2⟩ := Xf3 B18) | ((with_reducible refine gate_store (t := 35) (p := 2) rfl ?_); refine store_event (t := 35) (p := 2) (v := ?vo_w15) (w1 := ((((w11.setCell ⟨gb19, 2, none⟩ (.slice Ao12 t16.length co12)).setCell ⟨gb18, 0, none⟩ (.int .i64 a0_0)).setCell ⟨gb18, 1, none⟩ (.int .i64 a0_1)).setCell ⟨gb18, 2, none⟩ (.slice Ao12 t16.length co12))) ?hg ?ho ?hn ?hr ?_; (case ho => rfl); (case hg => rfl); (case hn => rfl); (case hr => first | (go_simp; done) | (go_simp; rfl)); intro w15 hw; have n0_ : Aside0 (Kd.S k113 113 w15 w.heap.size (fun _ => True) (.slice Ao12 t16.length co12) t16) := ⟨(by rw [hw]; exact (by (with_reducible repeat (first | apply Kd.S_alloc | apply Kd.S_drewN | apply Kd.S_drew)); exact Kd.S_mono (Kd.S_far (p := ⟨gb18, 2, none⟩) (Kd.S_far (p := ⟨gb18, 1, none⟩) (Kd.S_far (p := ⟨gb18, 0, none⟩) (Kd.S_far (p := ⟨gb19, 2, none⟩) (Kd.S_types (Kd.S_types HO20.out B19.out (by decide)) B18.out (by decide)) (fun _ hk => hk.1.2) (.slice Ao12 t16.length co12)) (fun _ hk => hk.2) (.int .i64 a0_0)) (fun _ hk => hk.2) (.int .i64 a0_1)) (fun _ hk => hk.2) (.slice Ao12 t16.length co12)) (fun _ hk => trivial)))⟩; have n1_ : Aside0 (w15.heap[gb17]? = some (.cells #[.int .i64 a0_0, .int .i64 a0_1, .slice A0_2 l0_2.length c0_2] 24 (0, 0))) := ⟨(by rw [hw]; exact (by refine Xu ?_; refine blk_far ?_ NB17_18.out _; refine Xu ?_; refine blk_far ?_ NB17_18.out _; refine Xu ?_; refine blk_far ?_ NB17_18.out _; refine Xu ?_; refine blk_far ?_ NB17_19.out _; refine Xu ?_; exact B17.out))⟩; have n2_ : Aside0 (w15.heap[gb18]? = some (.cells #[.int .i64 a0_0, .int .i64 a0_1, .slice Ao12 t16.length co12] 35 (0, 0))) := ⟨(by rw [hw]; exact (by refine Xu ?_; refine blk_put (cs := #[.int .i64 a0_0, .int .i64 a0_1, .slice none 0 0]) ?_ 2 _ rfl; refine Xu ?_; refine blk_put (cs := #[.int .i64 a0_0, .int .i64 0, .slice none 0 0]) ?_ 1 _ rfl; refine Xu ?_; refine blk_put (cs := #[.int .i64 0, .int .i64 0, .slice none 0 0]) ?_ 0 _ rfl; refine Xu ?_; refine blk_far ?_ NB18_19.out _; refine Xu ?_; exact B18.out))⟩; have n3_ : Aside0 (w15.heap[gb19]? = some (.cells #[.int .i64 a0_0, .int .i64 a0_1, .slice Ao12 t16.length co12] 35 (0, 0))) := ⟨(by rw [hw]; exact (by refine Xu ?_; refine blk_far ?_ NB19_18.out _; refine Xu ?_; refine blk_far ?_ NB19_18.out _; refine Xu ?_; refine blk_far ?_ NB19_18.out _; refine Xu ?_; refine blk_put (cs := #[.int .i64 a0_0, .int .i64 a0_1, .slice none 0 0]) ?_ 2 _ rfl; refine Xu ?_; exact B19.out))⟩; have n4_ : Aside0 (Below w.heap.size w w15) := ⟨(by rw [hw]; exact Xi)⟩; clear hw; clear HO20; clear B17; clear B18; clear B19; clear HB; have HO20 := n0_; have B17 := n1_; have B18 := n2_; have B19 := n3_; have HB := n4_; clear n0_ n1_ n2_ n3_ n4_))
 refine bodyPost_ret (results_cell_row rfl _ _ gb18 35 #[.int .i64 a0_0, .int .i64 a0_1, .slice Ao12 t16.length co12] (0, 0) _ rfl B18.out Tryz.underlying35 rfl (by kernel_rfl)) rfl ?_
 exact ⟨_, Xe, Xq HO20, Xi⟩
def laws_eqIntS.l0 : Nat → List Int → List Int → Int → Option (Bool)
 | 0, _, _, _ => none
 | k + 1, x0, x1, x5 => if x5 < (x0.length : Int) then (if 0 ≤ x5 then (if x5 < (x1.length : Int) then (if (rd x0 x5) = (rd x1 x5) then (laws_eqIntS.l0 k x0 x1 (wrap64 (x5 + 1))) else (some false)) else (none)) else (none)) else (some true)
def laws_eqIntS.f (k : Nat) (l0 : List Int) (l1 : List Int) : Option (Bool) := if (l0.length : Int) = (l1.length : Int) then (laws_eqIntS.l0 k l0 l1 0) else (some false)
theorem laws_eqIntS.calls (k : Nat) (A0 : Option Addr) (c0 : Nat) (l0 : List Int) (A1 : Option Addr) (c1 : Nat) (l1 : List Int) (r : Bool) (w : World) (hr0 : Kd.C (Kd.int .i64) w A0 l0.length l0) (hc0 : l0.length ≤ c0) (hr1 : Kd.C (Kd.int .i64) w A1 l1.length l1) (hc1 : l1.length ≤ c1) (h : laws_eqIntS.f k l0 l1 = some r) :
  Calls Tryz.prog 14 #[.slice A0 l0.length c0, .slice A1 l1.length c1] w fun e w' => e = .returned (.bool r) ∧ Drawn0 w w' := by
 have HR0 := Am hr0
 have HC0 := Am hc0
 clear hr0 hc0
 have HR1 := Am hr1
 have HC1 := Am hc1
 clear hr1 hc1
 have H : (if (l0.length : Int) = (l1.length : Int) then (laws_eqIntS.l0 k l0 l1 0) else (some false)) = some r := h
 clear h
 obtain ⟨c3, H⟩ | ⟨c3, H⟩ := Xiu H
 ·have c3b0 : ((l0.length : Int) == (l1.length : Int)) = true := beq_iff_eq.mpr c3
  have c3b1 : ((l0.length : Int) != (l1.length : Int)) = false := bne_eq_false_iff_eq.mpr c3
  have c3b2 : (l0.length == l1.length) = true := by first | simpa using c3 | (simp at c3 ⊢; omega)
  clear c3
  have H' := Am H
  clear H
  go_enter Tryz.func14, Tryz.ntmps14
  go_wp2
  repeat (go_quiet (fail); try go_wp2)
  go_loopg [5] k (fun kq v5 w' => ∃ (x5_1 : Int), v5 = .int .i64 x5_1 ∧ Aside0 (laws_eqIntS.l0 kq l0 l1 x5_1 = some r) ∧ Aside0 (kq ≤ k) ∧ Drawn0 w w')
  case atStart => exact ⟨(0), Xr, H', Xkr, by repeat (first | exact Drawn0.refl _ | apply Drawn0.step)⟩
  clear H'
  (try clear c1); (try clear c3); (try clear c3b0); (try clear c3b1); (try clear c3b2)
  obtain ⟨x5_1, rfl, HA, HK1, ⟨m1, rfl⟩⟩ := hrel
  cases gk with | zero => cases HA.out | succ k1 => ?_
  have H := HA.out
  clear HA
  simp only [laws_eqIntS.l0] at H
  obtain ⟨c4b0, H⟩ | ⟨c4b0, H⟩ := Xit H
  ·obtain ⟨c5b0, H⟩ := Xid H
   obtain ⟨c6b0, H⟩ := Xid H
   obtain ⟨c7, H⟩ | ⟨c7, H⟩ := Xiu H
   ·have c7b0 : ((rd l0 x5_1) == (rd l1 x5_1)) = true := beq_iff_eq.mpr c7
    have c7b1 : ((rd l0 x5_1) != (rd l1 x5_1)) = false := bne_eq_false_iff_eq.mpr c7
    clear c7
    have H' := Am H
    clear H
    have p10 : 0 ≤ (x5_1 : Int) := Xo
    have q10 : x5_1 < (l0.length : Int) := Xo
    obtain ⟨ad10, e10, hx10_0⟩ := Kd.at_int HR0.out x5_1 p10 q10
    cases e10
    replace p10 := eq_true p10
    replace q10 := eq_true q10
    have p11 : 0 ≤ (x5_1 : Int) := Xo
    have q11 : x5_1 < (l1.length : Int) := Xo
    obtain ⟨ad11, e11, hx11_0⟩ := Kd.at_int HR1.out x5_1 p11 q11
    cases e11
    replace p11 := eq_true p11
    replace q11 := eq_true q11
    go_wp2
    repeat (go_quiet (fail); try go_wp2)
    go_roundg k1
    case measure => have := HK1.out; omega
    case rel => exact ⟨(wrap64 (x5_1 + 1)), Xr, H', Xk1, by repeat (first | exact Drawn0.refl _ | apply Drawn0.step)⟩
   have c7b0 : ((rd l0 x5_1) == (rd l1 x5_1)) = false := beq_eq_false_iff_ne.mpr c7
   have c7b1 : ((rd l0 x5_1) != (rd l1 x5_1)) = true := bne_iff_ne.mpr c7
   obtain rfl := Xsi H
   have p10 : 0 ≤ (x5_1 : Int) := Xo
   have q10 : x5_1 < (l0.length : Int) := Xo
   obtain ⟨ad10, e10, hx10_0⟩ := Kd.at_int HR0.out x5_1 p10 q10
   cases e10
   replace p10 := eq_true p10
   replace q10 := eq_true q10
   have p11 : 0 ≤ (x5_1 : Int) := Xo
   have q11 : x5_1 < (l1.length : Int) := Xo
   obtain ⟨ad11, e11, hx11_0⟩ := Kd.at_int HR1.out x5_1 p11 q11
   cases e11
   replace p11 := eq_true p11
   replace q11 := eq_true q11
   go_wp2
   repeat (go_quiet (fail); try go_wp2)
   go_ret
   exact ⟨Xr, Xdr⟩
  obtain rfl := Xsi H
  go_wp2
  repeat (go_quiet (fail); try go_wp2)
  go_ret
  exact ⟨Xr, Xdr⟩
 have c3b0 : ((l0.length : Int) == (l1.length : Int)) = false := beq_eq_false_iff_ne.mpr c3
 have c3b1 : ((l0.length : Int) != (l1.length : Int)) = true := bne_iff_ne.mpr c3
 have c3b2 : (l0.length == l1.length) = false := by first | simpa using c3 | (simp at c3 ⊢; omega)
 obtain rfl := Xsi H
 go_enter Tryz.func14, Tryz.ntmps14
 go_wp2
 repeat (go_quiet (fail); try go_wp2)
 go_ret
 exact ⟨Xr, Xdr⟩
def laws_eqNode.f (k : Nat) (a0_0 : Int) (a0_1 : Int) (a0_2 : Int) (a0_3 : ByteArray) (l0_4 : List Int) (a1_0 : Int) (a1_1 : Int) (a1_2 : Int) (a1_3 : ByteArray) (l1_4 : List Int) : Option (Bool) := if a0_0 = a1_0 then (if a0_1 = a1_1 then (if a0_2 = a1_2 then (if a0_3.toList = a1_3.toList then ((laws_eqIntS.f k l0_4 l1_4).bind fun t10 => (if t10 = true then (some true) else (some false))) else (some false)) else (some false)) else (some false)) else (some false)
theorem laws_eqNode.calls (k : Nat) (a0_0 : Int) (a0_1 : Int) (a0_2 : Int) (a0_3 : ByteArray) (A0_4 : Option Addr) (c0_4 : Nat) (l0_4 : List Int) (a1_0 : Int) (a1_1 : Int) (a1_2 : Int) (a1_3 : ByteArray) (A1_4 : Option Addr) (c1_4 : Nat) (l1_4 : List Int) (r : Bool) (w : World) (hr0_4 : Kd.C (Kd.int .i64) w A0_4 l0_4.length l0_4) (hc0_4 : l0_4.length ≤ c0_4) (hr1_4 : Kd.C (Kd.int .i64) w A1_4 l1_4.length l1_4) (hc1_4 : l1_4.length ≤ c1_4) (h : laws_eqNode.f k a0_0 a0_1 a0_2 a0_3 l0_4 a1_0 a1_1 a1_2 a1_3 l1_4 = some r) :
  Calls Tryz.prog 100 #[.agg #[.int .i64 a0_0, .int .i64 a0_1, .int .i64 a0_2, .string a0_3, .slice A0_4 l0_4.length c0_4], .agg #[.int .i64 a1_0, .int .i64 a1_1, .int .i64 a1_2, .string a1_3, .slice A1_4 l1_4.length c1_4]] w fun e w' => e = .returned (.bool r) ∧ Below w.heap.size w w' := by
 have hu113 := Tryz.underlying113
 have HR0_4 := Am hr0_4
 have HC0_4 := Am hc0_4
 clear hr0_4 hc0_4
 have HR1_4 := Am hr1_4
 have HC1_4 := Am hc1_4
 clear hr1_4 hc1_4
 have HB := Am (Below.refl w.heap.size w)
 have H : (if a0_0 = a1_0 then (if a0_1 = a1_1 then (if a0_2 = a1_2 then (if a0_3.toList = a1_3.toList then ((laws_eqIntS.f k l0_4 l1_4).bind fun t28 => (if t28 = true then (some true) else (some false))) else (some false)) else (some false)) else (some false)) else (some false)) = some r := h
 clear h
 have HC3 := Am H
 clear H
 go_enter Tryz.func100, Tryz.ntmps100
 go_upto_if 9 with (first | ((with_reducible refine gate_dst (N := 2) rfl ?_); refine Xbx 2 #[.int .i64 a0_0, .int .i64 a0_1, .int .i64 a0_2, .string a0_3, .slice A0_4 l0_4.length c0_4] 113 ?_; intro gb29 hg w4 B29 GE29 hb; replace HB := Xhb hb; clear hb hg) | ((with_reducible refine gate_dst (N := 3) rfl ?_); refine Xbx 3 #[.int .i64 a1_0, .int .i64 a1_1, .int .i64 a1_2, .string a1_3, .slice A1_4 l1_4.length c1_4] 113 ?_; intro gb30 hg w5 B30 GE30 hb; replace HB := Xhb hb; have NB29_30 := Xnb hg B29; have NB30_29 := Xns NB29_30; replace B29 := Xbb B29 hb; clear hb hg; have hnb6 := NB29_30.out; have hnc6 := NB30_29.out; obtain ⟨Z7_0, Z7_1, Z7_2, Z7_3, Z7_4⟩ := Xc5 B29; obtain ⟨Z8_0, Z8_1, Z8_2, Z8_3, Z8_4⟩ := Xc5 B30))
 have H := HC3.out
 clear HC3
 obtain ⟨c9, H⟩ | ⟨c9, H⟩ := Xiu H
 ·have c9b0 : (a0_0 == a1_0) = true := beq_iff_eq.mpr c9
  have c9b1 : (a0_0 != a1_0) = false := bne_eq_false_iff_eq.mpr c9
  clear c9
  (first | rw [c9b0] | (simp only [i64_w, i32_w]; rw [c9b0]) | skip)
  obtain ⟨c10, H⟩ | ⟨c10, H⟩ := Xiu H
  ·have c10b0 : (a0_1 == a1_1) = true := beq_iff_eq.mpr c10
   have c10b1 : (a0_1 != a1_1) = false := bne_eq_false_iff_eq.mpr c10
   clear c10
   obtain ⟨c11, H⟩ | ⟨c11, H⟩ := Xiu H
   ·have c11b0 : (a0_2 == a1_2) = true := beq_iff_eq.mpr c11
    have c11b1 : (a0_2 != a1_2) = false := bne_eq_false_iff_eq.mpr c11
    clear c11
    obtain ⟨c12, H⟩ | ⟨c12, H⟩ := Xiu H
    ·have c12b0 : (a0_3.toList == a1_3.toList) = true := beq_iff_eq.mpr c12
     have c12b1 : (a0_3.toList != a1_3.toList) = false := bne_eq_false_iff_eq.mpr c12
     clear c12
     obtain ⟨t28, A13, H⟩ := Xbi H
     try dsimp only at H
     have HC14 := Am H
     clear H
     have hnb15 := NB29_30.out
     have hnc15 := NB30_29.out
     obtain ⟨Z16_0, Z16_1, Z16_2, Z16_3, Z16_4⟩ := Xc5 B29
     obtain ⟨Z17_0, Z17_1, Z17_2, Z17_3, Z17_4⟩ := Xc5 B30
     go_upto_if 30 with ((with_reducible refine gate_callee (f := 14) rfl ?_); refine Xgo 29 Tryz.func14 #[.slice A0_4 l0_4.length c0_4, .slice A1_4 l1_4.length c1_4] ?_; (with_reducible refine (laws_eqIntS.calls k _ _ l0_4 _ _ l1_4 t28 _ ?s1 ?s2 ?s3 ?s4 A13.out).mono ?_); (case s1 => exact Xc HR0_4); (case s2 => exact HC0_4.out); (case s3 => exact Xc HR1_4); (case s4 => exact HC1_4.out); rintro e w' ⟨rfl, ⟨nd, rfl⟩⟩; refine ⟨_, rfl, ?_⟩)
     have H := HC14.out
     clear HC14
     by_cases c18 : t28 = true
     ·subst c18
      try rw [if_pos rfl] at H
      obtain rfl := Xsi H
      go_wp2
      go_ret
      exact ⟨Xe, Xi⟩
     replace c18 := Xbf c18
     subst c18
     try rw [if_neg Xft] at H
     obtain rfl := Xsi H
     go_wp2
     go_ret
     exact ⟨Xe, Xi⟩
    have c12b0 : (a0_3.toList == a1_3.toList) = false := beq_eq_false_iff_ne.mpr c12
    have c12b1 : (a0_3.toList != a1_3.toList) = true := bne_iff_ne.mpr c12
    obtain rfl := Xsi H
    have hnb19 := NB29_30.out
    have hnc19 := NB30_29.out
    obtain ⟨Z20_0, Z20_1, Z20_2, Z20_3, Z20_4⟩ := Xc5 B29
    obtain ⟨Z21_0, Z21_1, Z21_2, Z21_3, Z21_4⟩ := Xc5 B30
    go_wp2
    go_ret
    exact ⟨Xe, Xi⟩
   have c11b0 : (a0_2 == a1_2) = false := beq_eq_false_iff_ne.mpr c11
   have c11b1 : (a0_2 != a1_2) = true := bne_iff_ne.mpr c11
   obtain rfl := Xsi H
   have hnb22 := NB29_30.out
   have hnc22 := NB30_29.out
   obtain ⟨Z23_0, Z23_1, Z23_2, Z23_3, Z23_4⟩ := Xc5 B29
   obtain ⟨Z24_0, Z24_1, Z24_2, Z24_3, Z24_4⟩ := Xc5 B30
   go_wp2
   go_ret
   exact ⟨Xe, Xi⟩
  have c10b0 : (a0_1 == a1_1) = false := beq_eq_false_iff_ne.mpr c10
  have c10b1 : (a0_1 != a1_1) = true := bne_iff_ne.mpr c10
  obtain rfl := Xsi H
  have hnb25 := NB29_30.out
  have hnc25 := NB30_29.out
  obtain ⟨Z26_0, Z26_1, Z26_2, Z26_3, Z26_4⟩ := Xc5 B29
  obtain ⟨Z27_0, Z27_1, Z27_2, Z27_3, Z27_4⟩ := Xc5 B30
  go_wp2
  go_ret
  exact ⟨Xe, Xi⟩
 have c9b0 : (a0_0 == a1_0) = false := beq_eq_false_iff_ne.mpr c9
 have c9b1 : (a0_0 != a1_0) = true := bne_iff_ne.mpr c9
 (first | rw [c9b0] | (simp only [i64_w, i32_w]; rw [c9b0]) | skip)
 obtain rfl := Xsi H
 go_wp2
 go_ret
 exact ⟨Xe, Xi⟩
def laws_eqNodeS.l0 : Nat → List (S113) → List (S113) → Int → Option (Bool)
 | 0, _, _, _ => none
 | k + 1, x0, x1, x5 => if x5 < (x0.length : Int) then (if 0 ≤ x5 then (if x5 < (x1.length : Int) then ((laws_eqNode.f k ((rd_T113 x0 x5).f0) ((rd_T113 x0 x5).f1) ((rd_T113 x0 x5).f2) ((rd_T113 x0 x5).f3) ((rd_T113 x0 x5).f4) ((rd_T113 x1 x5).f0) ((rd_T113 x1 x5).f1) ((rd_T113 x1 x5).f2) ((rd_T113 x1 x5).f3) ((rd_T113 x1 x5).f4)).bind fun t10 => (if t10 = true then (laws_eqNodeS.l0 k x0 x1 (wrap64 (x5 + 1))) else (some false))) else (none)) else (none)) else (some true)
def laws_eqNodeS.f (k : Nat) (l0 : List (S113)) (l1 : List (S113)) : Option (Bool) := if (l0.length : Int) = (l1.length : Int) then (laws_eqNodeS.l0 k l0 l1 0) else (some false)
def laws_eqNodeS.T6 : Bool × List (List Nat × List Nat) := (true, [([], []), ([], []), ([0, 1], [0, 1]), ([2], [2]), ([], []), ([], []), ([4, 5], [4, 5]), ([6], [6]), ([3, 7], [3, 7]), ([8], [8])])
def laws_eqNodeS.B6 : List Nat := [0, 0, 3, 7, 0, 0, 48, 112, 255, 511]
theorem laws_eqNodeS.tab6 : rtab .any (opsOf Tryz.f51 6) = laws_eqNodeS.T6 := by kernel_rfl
theorem laws_eqNodeS.bits6 : waitsOk laws_eqNodeS.T6.2 laws_eqNodeS.B6 = true := by kernel_rfl
theorem laws_eqNodeS.calls (k : Nat) (A0 : Option Addr) (c0 : Nat) (l0 : List (S113)) (A1 : Option Addr) (c1 : Nat) (l1 : List (S113)) (r : Bool) (w : World) (hr0 : Kd.C k113 w A0 l0.length l0) (hc0 : l0.length ≤ c0) (hr1 : Kd.C k113 w A1 l1.length l1) (hc1 : l1.length ≤ c1) (h : laws_eqNodeS.f k l0 l1 = some r) :
  Calls Tryz.prog 51 #[.slice A0 l0.length c0, .slice A1 l1.length c1] w fun e w' => e = .returned (.bool r) ∧ Below w.heap.size w w' := by
 have hu113 := Tryz.underlying113
 have HR0 := Am hr0
 have HC0 := Am hc0
 clear hr0 hc0
 have HR1 := Am hr1
 have HC1 := Am hc1
 clear hr1 hc1
 have HB := Am (Below.refl w.heap.size w)
 have H : (if (l0.length : Int) = (l1.length : Int) then (laws_eqNodeS.l0 k l0 l1 0) else (some false)) = some r := h
 clear h
 obtain ⟨c3, H⟩ | ⟨c3, H⟩ := Xiu H
 ·have c3b0 : ((l0.length : Int) == (l1.length : Int)) = true := beq_iff_eq.mpr c3
  have c3b1 : ((l0.length : Int) != (l1.length : Int)) = false := bne_eq_false_iff_eq.mpr c3
  have c3b2 : (l0.length == l1.length) = true := by first | simpa using c3 | (simp at c3 ⊢; omega)
  clear c3
  have H' := Am H
  clear H
  go_enter Tryz.func51, Tryz.ntmps51
  go_wp2
  go_loopg [5] k (fun kq v5 w' => ∃ (x5_1 : Int), v5 = .int .i64 x5_1 ∧ Aside0 (laws_eqNodeS.l0 kq l0 l1 x5_1 = some r) ∧ Aside0 (kq ≤ k) ∧ Aside0 (Below w.heap.size w w'))
  case atStart => exact ⟨(0), Xr, H', Xkr, ⟨Xi⟩⟩
  clear H'
  (try clear c1); (try clear c3); (try clear c3b0); (try clear c3b1); (try clear c3b2)
  obtain ⟨x5_1, rfl, HA, HK1, HB⟩ := hrel
  cases gk with | zero => cases HA.out | succ k1 => ?_
  have H := HA.out
  clear HA
  simp only [laws_eqNodeS.l0] at H
  obtain ⟨c4b0, H⟩ | ⟨c4b0, H⟩ := Xit H
  ·obtain ⟨c5b0, H⟩ := Xid H
   obtain ⟨c6b0, H⟩ := Xid H
   obtain ⟨t12, A7, H⟩ := Xbi H
   try dsimp only at H
   have HC8 := Am H
   clear H
   try go_wp2_with (fail)
   replace HB := Xhd HB
   have p13 : 0 ≤ (x5_1 : Int) := Xo
   have q13 : x5_1 < (l0.length : Int) := Xo
   obtain ⟨ad13, A141_4, c141_4, e13, hx13_0, hx13_1, hx13_2, hx13_3, hx13_4, hl141_4, hi141_4⟩ := at_T113 HR0.out x5_1 p13 q13
   have hw141_4 := hx13_4
   have hw141_3 := hx13_3
   have hw141_2 := hx13_2
   have hw141_1 := hx13_1
   have hw141_0 := hx13_0
   cases e13
   replace hx13_0 := Xm HB hx13_0
   replace hx13_1 := Xm HB hx13_1
   replace hx13_2 := Xm HB hx13_2
   replace hx13_3 := Xm HB hx13_3
   replace hx13_4 := Xm HB hx13_4
   have HR13_4 := Am hi141_4
   have HC13_4 := Am hl141_4
   clear hi141_4 hl141_4
   replace p13 := eq_true p13
   replace q13 := eq_true q13
   have p14 : 0 ≤ (x5_1 : Int) := Xo
   have q14 : x5_1 < (l1.length : Int) := Xo
   obtain ⟨ad14, A142_4, c142_4, e14, hx14_0, hx14_1, hx14_2, hx14_3, hx14_4, hl142_4, hi142_4⟩ := at_T113 HR1.out x5_1 p14 q14
   have hw142_4 := hx14_4
   have hw142_3 := hx14_3
   have hw142_2 := hx14_2
   have hw142_1 := hx14_1
   have hw142_0 := hx14_0
   cases e14
   replace hx14_0 := Xm HB hx14_0
   replace hx14_1 := Xm HB hx14_1
   replace hx14_2 := Xm HB hx14_2
   replace hx14_3 := Xm HB hx14_3
   replace hx14_4 := Xm HB hx14_4
   have HR14_4 := Am hi142_4
   have HC14_4 := Am hl142_4
   clear hi142_4 hl142_4
   replace p14 := eq_true p14
   replace q14 := eq_true q14
   refine Sx 10 (fun w' => w'.cell? (ad13.add ((x5_1).toNat * 5)) = some (.int .i64 ((rd_T113 l0 x5_1).f0)) ∧ w'.cell? ⟨(ad13.add ((x5_1).toNat * 5)).block, (ad13.add ((x5_1).toNat * 5)).off + 1, none⟩ = some (.int .i64 ((rd_T113 l0 x5_1).f1)) ∧ w'.cell? ⟨(ad13.add ((x5_1).toNat * 5)).block, (ad13.add ((x5_1).toNat * 5)).off + 2, none⟩ = some (.int .i64 ((rd_T113 l0 x5_1).f2)) ∧ w'.cell? ⟨(ad13.add ((x5_1).toNat * 5)).block, (ad13.add ((x5_1).toNat * 5)).off + 3, none⟩ = some (.string ((rd_T113 l0 x5_1).f3)) ∧ w'.cell? ⟨(ad13.add ((x5_1).toNat * 5)).block, (ad13.add ((x5_1).toNat * 5)).off + 4, none⟩ = some (.slice A141_4 ((rd_T113 l0 x5_1).f4).length c141_4) ∧ w'.cell? (ad14.add ((x5_1).toNat * 5)) = some (.int .i64 ((rd_T113 l1 x5_1).f0)) ∧ w'.cell? ⟨(ad14.add ((x5_1).toNat * 5)).block, (ad14.add ((x5_1).toNat * 5)).off + 1, none⟩ = some (.int .i64 ((rd_T113 l1 x5_1).f1)) ∧ w'.cell? ⟨(ad14.add ((x5_1).toNat * 5)).block, (ad14.add ((x5_1).toNat * 5)).off + 2, none⟩ = some (.int .i64 ((rd_T113 l1 x5_1).f2)) ∧ w'.cell? ⟨(ad14.add ((x5_1).toNat * 5)).block, (ad14.add ((x5_1).toNat * 5)).off + 3, none⟩ = some (.string ((rd_T113 l1 x5_1).f3)) ∧ w'.cell? ⟨(ad14.add ((x5_1).toNat * 5)).block, (ad14.add ((x5_1).toNat * 5)).off + 4, none⟩ = some (.slice A142_4 ((rd_T113 l1 x5_1).f4).length c142_4)) ⟨Xn hw141_0, Xn hw141_1, Xn hw141_2, Xn hw141_3, Xn hw141_4, Xn hw142_0, Xn hw142_1, Xn hw142_2, Xn hw142_3, Xn hw142_4⟩ (fun hHeld => ?_); refine with_tabW laws_eqNodeS.tab6 laws_eqNodeS.bits6 (fun HT_ HW_ => ?_)
   generalize wr.drew = w9 at HB HR13_4 HR14_4 hx13_0 hx13_1 hx13_2 hx13_3 hx13_4 hx14_0 hx14_1 hx14_2 hx14_3 hx14_4 hHeld ⊢
   refine Pu 0 17 10 1 ?_
   refine Pu 1 18 10 3 ?_
   refine Pu 2 19 10 7 ?_
   refine Pu 4 21 10 23 ?_
   refine Pu 5 22 10 55 ?_
   refine Pu 6 23 10 119 ?_
   refine Ta 3 20 10 127 ?_
   refine Ta 7 24 10 255 ?_
   refine On 8 25 10 511 (fun K hK => ?_)
   refine Gs Tryz.func100 #[.agg #[.int .i64 ((rd_T113 l0 x5_1).f0), .int .i64 ((rd_T113 l0 x5_1).f1), .int .i64 ((rd_T113 l0 x5_1).f2), .string ((rd_T113 l0 x5_1).f3), .slice A141_4 ((rd_T113 l0 x5_1).f4).length c141_4], .agg #[.int .i64 ((rd_T113 l1 x5_1).f0), .int .i64 ((rd_T113 l1 x5_1).f1), .int .i64 ((rd_T113 l1 x5_1).f2), .string ((rd_T113 l1 x5_1).f3), .slice A142_4 ((rd_T113 l1 x5_1).f4).length c142_4]] ?_
   with_reducible refine (laws_eqNode.calls k1 ((rd_T113 l0 x5_1).f0) ((rd_T113 l0 x5_1).f1) ((rd_T113 l0 x5_1).f2) ((rd_T113 l0 x5_1).f3) _ _ ((rd_T113 l0 x5_1).f4) ((rd_T113 l1 x5_1).f0) ((rd_T113 l1 x5_1).f1) ((rd_T113 l1 x5_1).f2) ((rd_T113 l1 x5_1).f3) _ _ ((rd_T113 l1 x5_1).f4) t12 _ ?s1 ?s2 ?s3 ?s4 A7.out).mono ?_
   (case s1 => exact Xc HR13_4)
   (case s2 => exact HC13_4.out)
   (case s3 => exact Xc HR14_4)
   (case s4 => exact HC14_4.out)
   rintro e w10 ⟨rfl, hb⟩
   refine ⟨_, rfl, ?_⟩
   replace HB := Xhb hb
   try clear hb
   try clear hb2
   try clear hk
   try clear hi
   refine hK.out _ _ ⟨Xn hw141_0, Xn hw141_1, Xn hw141_2, Xn hw141_3, Xn hw141_4, Xn hw142_0, Xn hw142_1, Xn hw142_2, Xn hw142_3, Xn hw142_4⟩ (fun hHeld => ?_)
   clear hK K
   refine Xno ?_
   refine Pu 9 26 10 1023 ?_
   refine Dn ?_
   go_upto_if 26 with (fail)
   have H := HC8.out
   clear HC8
   by_cases c11 : t12 = true
   ·subst c11
    try rw [if_pos rfl] at H
    have H' := Am H
    clear H
    go_wp2
    go_roundg k1
    case measure => have := HK1.out; omega
    case rel => exact ⟨(wrap64 (x5_1 + 1)), Xr, H', Xk1, ⟨Xi⟩⟩
   replace c11 := Xbf c11
   subst c11
   try rw [if_neg Xft] at H
   obtain rfl := Xsi H
   go_wp2
   go_ret
   exact ⟨Xe, Xi⟩
  obtain rfl := Xsi H
  go_wp2
  go_ret
  exact ⟨Xe, Xi⟩
 have c3b0 : ((l0.length : Int) == (l1.length : Int)) = false := beq_eq_false_iff_ne.mpr c3
 have c3b1 : ((l0.length : Int) != (l1.length : Int)) = true := bne_iff_ne.mpr c3
 have c3b2 : (l0.length == l1.length) = false := by first | simpa using c3 | (simp at c3 ⊢; omega)
 obtain rfl := Xsi H
 go_enter Tryz.func51, Tryz.ntmps51
 go_wp2
 go_ret
 exact ⟨Xe, Xi⟩
def laws_eqDoc.f (k : Nat) (a0_0 : Int) (a0_1 : Int) (l0_2 : List (S113)) (a1_0 : Int) (a1_1 : Int) (l1_2 : List (S113)) : Option (Bool) := if a0_0 = a1_0 then (if a0_1 = a1_1 then ((laws_eqNodeS.f k l0_2 l1_2).bind fun t10 => (if t10 = true then (some true) else (some false))) else (some false)) else (some false)
theorem laws_eqDoc.calls (k : Nat) (a0_0 : Int) (a0_1 : Int) (A0_2 : Option Addr) (c0_2 : Nat) (l0_2 : List (S113)) (a1_0 : Int) (a1_1 : Int) (A1_2 : Option Addr) (c1_2 : Nat) (l1_2 : List (S113)) (r : Bool) (w : World) (hr0_2 : Kd.C k113 w A0_2 l0_2.length l0_2) (hc0_2 : l0_2.length ≤ c0_2) (hr1_2 : Kd.C k113 w A1_2 l1_2.length l1_2) (hc1_2 : l1_2.length ≤ c1_2) (h : laws_eqDoc.f k a0_0 a0_1 l0_2 a1_0 a1_1 l1_2 = some r) :
  Calls Tryz.prog 15 #[.agg #[.int .i64 a0_0, .int .i64 a0_1, .slice A0_2 l0_2.length c0_2], .agg #[.int .i64 a1_0, .int .i64 a1_1, .slice A1_2 l1_2.length c1_2]] w fun e w' => e = .returned (.bool r) ∧ Below w.heap.size w w' := by
 have hu35 := Tryz.underlying35
 have HR0_2 := Am hr0_2
 have HC0_2 := Am hc0_2
 clear hr0_2 hc0_2
 have HR1_2 := Am hr1_2
 have HC1_2 := Am hc1_2
 clear hr1_2 hc1_2
 have HB := Am (Below.refl w.heap.size w)
 have H : (if a0_0 = a1_0 then (if a0_1 = a1_1 then ((laws_eqNodeS.f k l0_2 l1_2).bind fun t21 => (if t21 = true then (some true) else (some false))) else (some false)) else (some false)) = some r := h
 clear h
 have HC3 := Am H
 clear H
 go_enter Tryz.func15, Tryz.ntmps15
 go_upto_if 9 with (first | ((with_reducible refine gate_dst (N := 2) rfl ?_); refine Xbx 2 #[.int .i64 a0_0, .int .i64 a0_1, .slice A0_2 l0_2.length c0_2] 35 ?_; intro gb22 hg w4 B22 GE22 hb; replace HB := Xhb hb; clear hb hg) | ((with_reducible refine gate_dst (N := 3) rfl ?_); refine Xbx 3 #[.int .i64 a1_0, .int .i64 a1_1, .slice A1_2 l1_2.length c1_2] 35 ?_; intro gb23 hg w5 B23 GE23 hb; replace HB := Xhb hb; have NB22_23 := Xnb hg B22; have NB23_22 := Xns NB22_23; replace B22 := Xbb B22 hb; clear hb hg; have hnb6 := NB22_23.out; have hnc6 := NB23_22.out; obtain ⟨Z7_0, Z7_1, Z7_2⟩ := Xc3 B22; obtain ⟨Z8_0, Z8_1, Z8_2⟩ := Xc3 B23))
 have H := HC3.out
 clear HC3
 obtain ⟨c9, H⟩ | ⟨c9, H⟩ := Xiu H
 ·have c9b0 : (a0_0 == a1_0) = true := beq_iff_eq.mpr c9
  have c9b1 : (a0_0 != a1_0) = false := bne_eq_false_iff_eq.mpr c9
  clear c9
  (first | rw [c9b0] | (simp only [i64_w, i32_w]; rw [c9b0]) | skip)
  obtain ⟨c10, H⟩ | ⟨c10, H⟩ := Xiu H
  ·have c10b0 : (a0_1 == a1_1) = true := beq_iff_eq.mpr c10
   have c10b1 : (a0_1 != a1_1) = false := bne_eq_false_iff_eq.mpr c10
   clear c10
   obtain ⟨t21, A11, H⟩ := Xbi H
   try dsimp only at H
   have HC12 := Am H
   clear H
   have hnb13 := NB22_23.out
   have hnc13 := NB23_22.out
   obtain ⟨Z14_0, Z14_1, Z14_2⟩ := Xc3 B22
   obtain ⟨Z15_0, Z15_1, Z15_2⟩ := Xc3 B23
   go_upto_if 20 with ((with_reducible refine gate_callee (f := 51) rfl ?_); refine Xgo 19 Tryz.func51 #[.slice A0_2 l0_2.length c0_2, .slice A1_2 l1_2.length c1_2] ?_; (with_reducible refine (laws_eqNodeS.calls k _ _ l0_2 _ _ l1_2 t21 _ ?s1 ?s2 ?s3 ?s4 A11.out).mono ?_); (case s1 => exact Xc HR0_2); (case s2 => exact HC0_2.out); (case s3 => exact Xc HR1_2); (case s4 => exact HC1_2.out); rintro e w16 ⟨rfl, hb⟩; refine ⟨_, rfl, ?_⟩; replace B22 := Xbb B22 hb; replace B23 := Xbb B23 hb; replace HB := Xhb hb; clear hb)
   have H := HC12.out
   clear HC12
   by_cases c17 : t21 = true
   ·subst c17
    try rw [if_pos rfl] at H
    obtain rfl := Xsi H
    go_wp2
    go_ret
    exact ⟨Xe, Xi⟩
   replace c17 := Xbf c17
   subst c17
   try rw [if_neg Xft] at H
   obtain rfl := Xsi H
   go_wp2
   go_ret
   exact ⟨Xe, Xi⟩
  have c10b0 : (a0_1 == a1_1) = false := beq_eq_false_iff_ne.mpr c10
  have c10b1 : (a0_1 != a1_1) = true := bne_iff_ne.mpr c10
  obtain rfl := Xsi H
  have hnb18 := NB22_23.out
  have hnc18 := NB23_22.out
  obtain ⟨Z19_0, Z19_1, Z19_2⟩ := Xc3 B22
  obtain ⟨Z20_0, Z20_1, Z20_2⟩ := Xc3 B23
  go_wp2
  go_ret
  exact ⟨Xe, Xi⟩
 have c9b0 : (a0_0 == a1_0) = false := beq_eq_false_iff_ne.mpr c9
 have c9b1 : (a0_0 != a1_0) = true := bne_iff_ne.mpr c9
 (first | rw [c9b0] | (simp only [i64_w, i32_w]; rw [c9b0]) | skip)
 obtain rfl := Xsi H
 go_wp2
 go_ret
 exact ⟨Xe, Xi⟩
def laws_markIntS.l0 : Nat → List Int → Int → Int → Option (Int × List Int)
 | 0, _, _, _ => none
 | k + 1, x0, x1, x5 => if x5 < (x0.length : Int) then (if 0 ≤ x5 then (laws_markIntS.l0 k (x0.set (x5 : Int).toNat x1) (wrap64 (x1 + 1)) (wrap64 (x5 + 1))) else (none)) else (some (x1, x0))
def laws_markIntS.f (k : Nat) (l0 : List Int) (a1 : Int) : Option (Int × List Int) := laws_markIntS.l0 k l0 a1 0
theorem laws_markIntS.calls (k : Nat) (P0_ : Nat → Prop) (u9000_ : Value) (l0 : List Int) (a1 : Int) (r1 : Int) (r2 : List Int) (w0 w : World) (hB : Below w0.heap.size w0 w) (ho0 : Kd.R (Kd.int .i64) 3 w w0.heap.size P0_ u9000_ l0) (h : laws_markIntS.f k l0 a1 = some (r1, r2)) :
  Calls Tryz.prog 19 #[u9000_, .int .i64 a1] w fun e w' => e = .returned (.int .i64 r1) ∧ Kd.R (Kd.int .i64) 3 w' w0.heap.size (fun k_ => (P0_ k_ ∨ w.heap.size ≤ k_)) u9000_ r2 ∧ Below w0.heap.size w0 w' ∧ Kept w w' (fun k_ => P0_ k_) := by
 have HO0 := Am (show Kd.R (Kd.int .i64) 3 w w0.heap.size (fun k_ => (P0_ k_ ∨ w.heap.size ≤ k_)) u9000_ l0 from Kd.R_mono ho0 (fun k_ hk => (.inl hk)))
 have HK := Am (Kept.refl w (fun k_ => P0_ k_))
 have HW0 := Am hB.size
 have HB := Am hB
 clear hB
 have H : (laws_markIntS.l0 k l0 a1 0) = some (r1, r2) := h
 clear h
 have H' := Am H
 clear H
 go_enter Tryz.func19, Tryz.ntmps19
 go_wp2
 go_loopg [1, 5] k (fun kq v1 v5 w' => ∃ (x0_1 : List Int) (x1_1 : Int) (x5_1 : Int), v1 = .int .i64 x1_1 ∧ v5 = .int .i64 x5_1 ∧ Aside0 (laws_markIntS.l0 kq x0_1 x1_1 x5_1 = some (r1, r2)) ∧ Aside0 (kq ≤ k) ∧ Aside0 (Kd.R (Kd.int .i64) 3 w' w0.heap.size (fun k_ => (P0_ k_ ∨ w.heap.size ≤ k_)) u9000_ x0_1) ∧ Aside0 (Kept w w' (fun k_ => P0_ k_)) ∧ Aside0 (Below w0.heap.size w0 w'))
 case atStart => exact ⟨(l0), (a1), (0), Xr, Xr, H', Xkr, (Xp' HO0), ⟨by repeat first | (with_reducible first | exact HK.out | apply Kept.drewN | apply Kept.drew) | exact HK.out⟩, ⟨Xi⟩⟩
 clear H'
 obtain ⟨x0_1, x1_1, x5_1, rfl, rfl, HA, HK1, O_0, HK, HB⟩ := hrel
 cases gk with | zero => cases HA.out | succ k1 => ?_
 have H := HA.out
 clear HA
 simp only [laws_markIntS.l0] at H
 obtain ⟨c3b0, H⟩ | ⟨c3b0, H⟩ := Xit H
 ·obtain ⟨c4b0, H⟩ := Xid H
  obtain ⟨y10, hy10⟩ : ∃ y_ : List Int, y_ = (x0_1.set (x5_1 : Int).toNat x1_1) := ⟨_, rfl⟩
  replace H : (laws_markIntS.l0 k1 y10 (wrap64 (x1_1 + 1)) (wrap64 (x5_1 + 1))) = some (r1, r2) := by first | (rw [hy10]; with_reducible exact H) | (have H2_ := (Option.bind_some _ _).symm.trans H; rw [hy10]; with_reducible exact H2_) | (have H2_ := (Option.bind_some _ _).symm.trans H; with_reducible exact H2_) | with_reducible exact H | (rw [hy10]; exact H) | exact H
  have Ny10 := Am hy10
  clear hy10
  have H' := Am H
  clear H
  obtain ⟨Ao6, co6, eo6⟩ := Kd.R_slice O_0.out
  subst eo6
  have p5 : 0 ≤ (x5_1 : Int) := Xo
  have q5 : (x5_1 : Int) < ((x0_1.length : Int) : Int) := Xo
  obtain ⟨go5, co5, eo5, gb5, gl5, cl5, HG5⟩ := Kd.R_form O_0.out (by omega)
  (first | cases eo5 | (injection eo5 with ea_ en_ ec_; (first | subst ea_ | (injection ea_ with ea_; subst ea_)); subst ec_; clear en_))
  have GB5 := Am gb5
  have GG5 := Am HG5
  clear gb5 gl5 HG5
  have HMgo5 := Am (show (P0_ go5 ∨ w.heap.size ≤ go5) from (O_0.out.1 _ rfl))
  obtain ⟨hx5_0, hf5_0⟩ := Kd.R_celln 0 O_0.out (x5_1 : Int) p5 q5
  replace p5 := eq_true p5
  replace q5 := eq_true q5
  have HP7 := Kd.R_putg O_0.out (x5_1 : Int) x1_1
  go_wp2_with (first | ((with_reducible refine gate_store (t := 3) (p := 15) rfl ?_); refine store_event (t := 3) (p := 15) (v := ?vo_w8) (w1 := (wr.setCell ⟨go5, (x5_1 : Int).toNat, none⟩ (.int .i64 x1_1))) ?hg ?ho ?hn ?hr ?_; (case ho => rfl); (case hg => rfl); (case hn => rfl); (case hr => first | (go_simp; done) | (go_simp; rfl)); intro w8 hw; have hg : wr.grownBy w8 (some go5) := (by rw [hw]; exact HP7.2); have hp_ : Kd.R (Kd.int .i64) 3 w8 w0.heap.size (fun k_ => (P0_ k_ ∨ w.heap.size ≤ k_)) (.slice (some ⟨go5, 0, none⟩) x0_1.length co6) y10 := (by rw [hw, Ny10.out]; exact HP7.1); clear HP7; replace HB := Am ((by rw [hw]; exact below_set (HB.out) GB5.out : Below w0.heap.size w0 w8)); replace HK := Am (Kept.of_grown (S := (fun k_ => P0_ k_)) hg (by repeat first | (with_reducible first | exact HK.out | apply Kept.drewN | apply Kept.drew) | exact HK.out) (fun k_ e_ => (O_0.out.1 k_ e_))); replace O_0 := Am (hp_); clear hg hw hp_))
  go_roundg k1
  case measure => have := HK1.out; omega
  case rel => exact ⟨(y10), (wrap64 (x1_1 + 1)), (wrap64 (x5_1 + 1)), Xr, Xr, H', Xk1, (Xp' O_0), ⟨by repeat first | (with_reducible first | exact HK.out | apply Kept.drewN | apply Kept.drew) | exact HK.out⟩, ⟨Xi⟩⟩
 simp only [Option.some.injEq, Prod.mk.injEq] at H
 obtain ⟨rfl, rfl⟩ := H
 obtain ⟨Ao9, co9, eo9⟩ := Kd.R_slice O_0.out
 subst eo9
 go_wp2
 go_ret
 exact ⟨Xe, Xq O_0, Xi, by repeat first | (with_reducible first | exact HK.out | apply Kept.drewN | apply Kept.drew) | exact HK.out⟩
def laws_markText.l0 : Nat → Int → ByteArray → Option (ByteArray)
 | 0, _, _ => none
 | k + 1, x0, x3 => if x0 > 0 then ((some (([(wrap64 (48 + (Int.tmod x0 10))) % 256] : List Int) : List Int)).bind fun y10 => (if (strOfNums y10).size + x3.size ≤ 9223372036854775807 then (laws_markText.l0 k (wrap64 (Int.tdiv x0 10)) ((strOfNums y10) ++ x3)) else (none))) else (if 1 + x3.size ≤ 9223372036854775807 then (some ((⟨#[109]⟩ : ByteArray) ++ x3)) else (none))
def laws_markText.f (k : Nat) (a0 : Int) : Option (ByteArray) := if a0 ≤ 0 then (some (⟨#[109, 48]⟩ : ByteArray)) else (laws_markText.l0 k a0 (⟨#[]⟩ : ByteArray))
theorem laws_markText.calls (k : Nat) (a0 : Int) (r : ByteArray) (w : World) (h : laws_markText.f k a0 = some r) :
  Calls Tryz.prog 101 #[.int .i64 a0] w fun e w' => e = .returned (.string r) ∧ Below w.heap.size w w' := by
 have HB := Am (Below.refl w.heap.size w)
 have H : (if a0 ≤ 0 then (some (⟨#[109, 48]⟩ : ByteArray)) else (laws_markText.l0 k a0 (⟨#[]⟩ : ByteArray))) = some r := h
 clear h
 obtain ⟨c2b0, H⟩ | ⟨c2b0, H⟩ := Xit H
 ·obtain rfl := Xsi H
  go_enter Tryz.func101, Tryz.ntmps101
  go_wp2
  go_ret
  exact ⟨Xe, Xi⟩
 have H' := Am H
 clear H
 go_enter Tryz.func101, Tryz.ntmps101
 go_wp2
 go_loopg [0, 3] k (fun kq v0 v3 w' => ∃ (x0_1 : Int) (x3_1 : ByteArray), v0 = .int .i64 x0_1 ∧ v3 = .string x3_1 ∧ Aside0 (laws_markText.l0 kq x0_1 x3_1 = some r) ∧ Aside0 (kq ≤ k) ∧ Aside0 (Below w.heap.size w w'))
 case atStart => exact ⟨(a0), ((⟨#[]⟩ : ByteArray)), Xr, Xr, H', Xkr, ⟨Xi⟩⟩
 clear H'
 (try clear c2); (try clear c2b0)
 obtain ⟨x0_1, x3_1, rfl, rfl, HA, HK1, HB⟩ := hrel
 cases gk with | zero => cases HA.out | succ k1 => ?_
 have H := HA.out
 clear HA
 simp only [laws_markText.l0] at H
 obtain ⟨c3, H⟩ | ⟨c3, H⟩ := Xiu H
 ·have c3b0 : decide (0 < x0_1) = true := decide_eq_true c3
  clear c3
  obtain ⟨y10, hy10⟩ : ∃ y_ : List Int, y_ = (([(wrap64 (48 + (Int.tmod x0_1 10))) % 256] : List Int)) := ⟨_, rfl⟩
  replace H : (if (strOfNums y10).size + x3_1.size ≤ 9223372036854775807 then (laws_markText.l0 k1 (wrap64 (Int.tdiv x0_1 10)) ((strOfNums y10) ++ x3_1)) else (none)) = some r := by first | (rw [hy10]; with_reducible exact H) | (have H2_ := (Option.bind_some _ _).symm.trans H; rw [hy10]; with_reducible exact H2_) | (have H2_ := (Option.bind_some _ _).symm.trans H; with_reducible exact H2_) | with_reducible exact H | (rw [hy10]; exact H) | exact H
  have Ny10 := Am hy10
  clear hy10
  obtain ⟨c4, H⟩ := Xif H
  have c4b0 := eq_true c4
  have c4b1 : decide ((strOfNums y10).size + x3_1.size ≤ 9223372036854775807) = true := decide_eq_true c4
  try have c4b2 : (9223372036854775807 < (strOfNums y10).size + x3_1.size) = False := eq_false (Nat.not_lt.2 c4)
  have H' := Am H
  clear H
  go_wp2_with (first | ((with_reducible refine gate_dst (N := 12) rfl ?_); refine Kd.R_lit (Kd.int .u8) _ 5 ?hg (N := 12) ?hd (xs := ([(wrap64 (48 + (Int.tmod x0_1 10))) % 256] : List Int)) (inner := [.int .u8 ((wrap64 (48 + (Int.tmod x0_1 10))) % 256)]) (ok := fun _ => True) (okp := fun _ => True) ?hr ?hp (fun _ hk => hk) trivial (Below.refl _ _) (Nat.le_refl _) (by simp) ?_; (case hd => rfl); (case hg => rfl); (case hr => first | (go_simp; done) | (go_simp; rfl)); (case hp => exact (Reps.one (show Kd.M (Kd.int .u8) _ _ _ ((wrap64 (48 + (Int.tmod x0_1 10))) % 256) [.int .u8 ((wrap64 (48 + (Int.tmod x0_1 10))) % 256)] from rfl) (Reps.none _ _))); intro v149 w5 ho6 hb hg_ hnew_; clear hg_ hnew_; (first | rw [← Ny10.out] at ho6 | (simp only [Int.reduceToNat] at ho6; rw [← Ny10.out] at ho6)); have HO11 := Am (Kd.R_lower ho6 (below_size Xi)); replace HB := Xhb hb; clear hb ho6; have hcv7 := own_string (P := Tryz.prog) Tryz.underlying58 Tryz.underlying5 Tryz.underlying9 (Kd.own_of_R HO11.out)))
  go_roundg k1
  case measure => have := HK1.out; omega
  case rel => exact ⟨(wrap64 (Int.tdiv x0_1 10)), ((strOfNums y10) ++ x3_1), Xr, Xr, H', Xk1, ⟨Xi⟩⟩
 have c3b0 : decide (0 < x0_1) = false := decide_eq_false c3
 clear c3
 obtain ⟨c8, H⟩ | ⟨c8, H⟩ := Xiu H
 ·have c8b0 := eq_true c8
  have c8b1 : decide (1 + x3_1.size ≤ 9223372036854775807) = true := decide_eq_true c8
  try have c8b2 : (9223372036854775807 < 1 + x3_1.size) = False := eq_false (Nat.not_lt.2 c8)
  obtain rfl := Xsi H
  go_wp2
  go_ret
  exact ⟨Xe, Xi⟩
 exact absurd H (by simp)
def laws_heldIntS.l0 : Nat → List Int → Int → Int → Option (Int)
 | 0, _, _, _ => none
 | k + 1, x0, x1, x5 => if x5 < (x0.length : Int) then (if 0 ≤ x5 then (if (rd x0 x5) = x1 then (laws_heldIntS.l0 k x0 (wrap64 (x1 + 1)) (wrap64 (x5 + 1))) else (some (-1))) else (none)) else (some x1)
def laws_heldIntS.f (k : Nat) (l0 : List Int) (a1 : Int) : Option (Int) := laws_heldIntS.l0 k l0 a1 0
theorem laws_heldIntS.calls (k : Nat) (A0 : Option Addr) (c0 : Nat) (l0 : List Int) (a1 : Int) (r : Int) (w : World) (hr0 : Kd.C (Kd.int .i64) w A0 l0.length l0) (hc0 : l0.length ≤ c0) (h : laws_heldIntS.f k l0 a1 = some r) :
  Calls Tryz.prog 20 #[.slice A0 l0.length c0, .int .i64 a1] w fun e w' => e = .returned (.int .i64 r) ∧ Drawn0 w w' := by
 have HR0 := Am hr0
 have HC0 := Am hc0
 clear hr0 hc0
 have H : (laws_heldIntS.l0 k l0 a1 0) = some r := h
 clear h
 have H' := Am H
 clear H
 go_enter Tryz.func20, Tryz.ntmps20
 go_wp2
 go_loopg [1, 5] k (fun kq v1 v5 w' => ∃ (x1_1 : Int) (x5_1 : Int), v1 = .int .i64 x1_1 ∧ v5 = .int .i64 x5_1 ∧ Aside0 (laws_heldIntS.l0 kq l0 x1_1 x5_1 = some r) ∧ Aside0 (kq ≤ k) ∧ Drawn0 w w')
 case atStart => exact ⟨(a1), (0), Xr, Xr, H', Xkr, by repeat (first | exact Drawn0.refl _ | apply Drawn0.step)⟩
 clear H'
 obtain ⟨x1_1, x5_1, rfl, rfl, HA, HK1, ⟨m1, rfl⟩⟩ := hrel
 cases gk with | zero => cases HA.out | succ k1 => ?_
 have H := HA.out
 clear HA
 simp only [laws_heldIntS.l0] at H
 obtain ⟨c3b0, H⟩ | ⟨c3b0, H⟩ := Xit H
 ·obtain ⟨c4b0, H⟩ := Xid H
  obtain ⟨c5, H⟩ | ⟨c5, H⟩ := Xiu H
  ·have c5b0 : ((rd l0 x5_1) == x1_1) = true := beq_iff_eq.mpr c5
   have c5b1 : ((rd l0 x5_1) != x1_1) = false := bne_eq_false_iff_eq.mpr c5
   clear c5
   have H' := Am H
   clear H
   have p10 : 0 ≤ (x5_1 : Int) := Xo
   have q10 : x5_1 < (l0.length : Int) := Xo
   obtain ⟨ad10, e10, hx10_0⟩ := Kd.at_int HR0.out x5_1 p10 q10
   cases e10
   replace p10 := eq_true p10
   replace q10 := eq_true q10
   go_wp2
   go_roundg k1
   case measure => have := HK1.out; omega
   case rel => exact ⟨(wrap64 (x1_1 + 1)), (wrap64 (x5_1 + 1)), Xr, Xr, H', Xk1, by repeat (first | exact Drawn0.refl _ | apply Drawn0.step)⟩
  have c5b0 : ((rd l0 x5_1) == x1_1) = false := beq_eq_false_iff_ne.mpr c5
  have c5b1 : ((rd l0 x5_1) != x1_1) = true := bne_iff_ne.mpr c5
  obtain rfl := Xsi H
  have p10 : 0 ≤ (x5_1 : Int) := Xo
  have q10 : x5_1 < (l0.length : Int) := Xo
  obtain ⟨ad10, e10, hx10_0⟩ := Kd.at_int HR0.out x5_1 p10 q10
  cases e10
  replace p10 := eq_true p10
  replace q10 := eq_true q10
  go_wp2
  go_ret
  exact ⟨Xr, Xdr⟩
 obtain rfl := Xsi H
 go_wp2
 go_ret
 exact ⟨Xr, Xdr⟩
def laws_szHoldS.f (l0 : List (S27)) (a1 : Int) : Option (Int) := if (wrap64 (a1 - (l0.length : Int))) < 0 then (some (-1)) else (some (wrap64 (a1 - (l0.length : Int))))
theorem laws_szHoldS.calls (A0 : Option Addr) (c0 : Nat) (l0 : List (S27)) (a1 : Int) (r : Int) (w : World) (hr0 : Kd.C k27 w A0 l0.length l0) (hc0 : l0.length ≤ c0) (h : laws_szHoldS.f l0 a1 = some r) :
  Calls Tryz.prog 8 #[.slice A0 l0.length c0, .int .i64 a1] w fun e w' => e = .returned (.int .i64 r) ∧ Drawn0 w w' := by
 have HR0 := Am hr0
 have HC0 := Am hc0
 clear hr0 hc0
 have H : (if (wrap64 (a1 - (l0.length : Int))) < 0 then (some (-1)) else (some (wrap64 (a1 - (l0.length : Int))))) = some r := h
 clear h
 obtain ⟨c3b0, H⟩ | ⟨c3b0, H⟩ := Xit H
 ·obtain rfl := Xsi H
  go_enter Tryz.func8, Tryz.ntmps8
  go_wp2
  go_ret
  exact ⟨Xr, Xdr⟩
 obtain rfl := Xsi H
 go_enter Tryz.func8, Tryz.ntmps8
 go_wp2
 go_ret
 exact ⟨Xr, Xdr⟩
def laws_szTable.f (l0_0 : List (S27)) (l0_1 : List (S27)) (a1 : Int) : Option (Int) := (laws_szHoldS.f l0_0 a1).bind fun t10 => (if t10 < 0 then (some (-1)) else ((laws_szHoldS.f l0_1 t10).bind fun t11 => (if t11 < 0 then (some (-1)) else (some t11))))
theorem laws_szTable.calls (A0_0 : Option Addr) (c0_0 : Nat) (l0_0 : List (S27)) (A0_1 : Option Addr) (c0_1 : Nat) (l0_1 : List (S27)) (a1 : Int) (r : Int) (w : World) (hr0_0 : Kd.C k27 w A0_0 l0_0.length l0_0) (hc0_0 : l0_0.length ≤ c0_0) (hr0_1 : Kd.C k27 w A0_1 l0_1.length l0_1) (hc0_1 : l0_1.length ≤ c0_1) (h : laws_szTable.f l0_0 l0_1 a1 = some r) :
  Calls Tryz.prog 21 #[.agg #[.slice A0_0 l0_0.length c0_0, .slice A0_1 l0_1.length c0_1], .int .i64 a1] w fun e w' => e = .returned (.int .i64 r) ∧ Below w.heap.size w w' := by
 have hu49 := Tryz.underlying49
 have HR0_0 := Am hr0_0
 have HC0_0 := Am hc0_0
 clear hr0_0 hc0_0
 have HR0_1 := Am hr0_1
 have HC0_1 := Am hc0_1
 clear hr0_1 hc0_1
 have HB := Am (Below.refl w.heap.size w)
 have H : ((laws_szHoldS.f l0_0 a1).bind fun t12 => (if t12 < 0 then (some (-1)) else ((laws_szHoldS.f l0_1 t12).bind fun t13 => (if t13 < 0 then (some (-1)) else (some t13))))) = some r := h
 clear h
 obtain ⟨t12, A3, H⟩ := Xbi H
 try dsimp only at H
 have HC4 := Am H
 clear H
 go_enter Tryz.func21, Tryz.ntmps21
 go_upto_if 10 with (first | ((with_reducible refine gate_dst (N := 2) rfl ?_); refine Xbx 2 #[.slice A0_0 l0_0.length c0_0, .slice A0_1 l0_1.length c0_1] 49 ?_; intro gb14 hg w5 B14 GE14 hb; replace HB := Xhb hb; clear hb hg; obtain ⟨Z6_0, Z6_1⟩ := Xc2 B14) | ((with_reducible refine gate_callee (f := 8) rfl ?_); refine Xgo 8 Tryz.func8 #[.slice A0_0 l0_0.length c0_0, .int .i64 a1] ?_; (with_reducible refine (laws_szHoldS.calls _ _ l0_0 a1 t12 _ ?s1 ?s2 A3.out).mono ?_); (case s1 => exact Xc HR0_0); (case s2 => exact HC0_0.out); rintro e w' ⟨rfl, ⟨nd, rfl⟩⟩; refine ⟨_, rfl, ?_⟩))
 have H := HC4.out
 clear HC4
 obtain ⟨c7b0, H⟩ | ⟨c7b0, H⟩ := Xit H
 ·(first | rw [c7b0] | (simp only [i64_w, i32_w]; rw [c7b0]) | skip)
  obtain rfl := Xsi H
  go_wp2
  go_ret
  exact ⟨Xe, Xi⟩
 (first | rw [c7b0] | (simp only [i64_w, i32_w]; rw [c7b0]) | skip)
 obtain ⟨t13, A8, H⟩ := Xbi H
 try dsimp only at H
 have HC9 := Am H
 clear H
 obtain ⟨Z10_0, Z10_1⟩ := Xc2 B14
 go_upto_if 16 with ((with_reducible refine gate_callee (f := 8) rfl ?_); refine Xgo 14 Tryz.func8 #[.slice A0_1 l0_1.length c0_1, .int .i64 t12] ?_; (with_reducible refine (laws_szHoldS.calls _ _ l0_1 t12 t13 _ ?s1 ?s2 A8.out).mono ?_); (case s1 => exact Xc HR0_1); (case s2 => exact HC0_1.out); rintro e w' ⟨rfl, ⟨nd, rfl⟩⟩; refine ⟨_, rfl, ?_⟩)
 have H := HC9.out
 clear HC9
 obtain ⟨c11b0, H⟩ | ⟨c11b0, H⟩ := Xit H
 ·(first | rw [c11b0] | (simp only [i64_w, i32_w]; rw [c11b0]) | skip)
  obtain rfl := Xsi H
  go_wp2
  go_ret
  exact ⟨Xe, Xi⟩
 (first | rw [c11b0] | (simp only [i64_w, i32_w]; rw [c11b0]) | skip)
 obtain rfl := Xsi H
 go_wp2
 go_ret
 exact ⟨Xe, Xi⟩
def laws_toHold.f (a0_0 : Int) (a0_1 : Int) (a0_2 : Int) : Option (Int × Int × Int) := some (a0_0, a0_1, a0_2)
theorem laws_toHold.calls (a0_0 : Int) (a0_1 : Int) (a0_2 : Int) (r1 : Int) (r2 : Int) (r3 : Int) (w : World) (h : laws_toHold.f a0_0 a0_1 a0_2 = some (r1, r2, r3)) :
  Calls Tryz.prog 12 #[.agg #[.int .i64 a0_0, .int .i64 a0_1, .int .i64 a0_2]] w fun e w' => e = .returned (.agg #[.int .i64 r1, .int .i64 r2, .int .i64 r3]) ∧ Below w.heap.size w w' := by
 have hu27 := Tryz.underlying27
 have hu39 := Tryz.underlying39
 have HB := Am (Below.refl w.heap.size w)
 have H : (some (a0_0, a0_1, a0_2)) = some (r1, r2, r3) := h
 clear h
 simp only [Option.some.injEq, Prod.mk.injEq] at H
 obtain ⟨rfl, rfl, rfl⟩ := H
 go_enter Tryz.func12, Tryz.ntmps12
 go_wp2_with (first | ((with_reducible refine gate_dst (N := 1) rfl ?_); refine Xbx 1 #[.int .i64 a0_0, .int .i64 a0_1, .int .i64 a0_2] 27 ?_; intro gb12 hg w2 B12 GE12 hb; replace HB := Xhb hb; clear hb hg) | ((with_reducible refine gate_dst (N := 2) rfl ?_); refine Xbx 2 #[.int .i64 0, .int .i64 0, .int .i64 0] 39 ?_; intro gb13 hg w3 B13 GE13 hb; replace HB := Xhb hb; have NB12_13 := Xnb hg B12; have NB13_12 := Xns NB12_13; replace B12 := Xbb B12 hb; clear hb hg) | ((with_reducible refine gate_dst (N := 3) rfl ?_); refine Xbx 3 #[.int .i64 0, .int .i64 0, .int .i64 0] 39 ?_; intro gb14 hg w4 B14 GE14 hb; replace HB := Xhb hb; have NB12_14 := Xnb hg B12; have NB14_12 := Xns NB12_14; replace B12 := Xbb B12 hb; have NB13_14 := Xnb hg B13; have NB14_13 := Xns NB13_14; replace B13 := Xbb B13 hb; clear hb hg; have hnb5 := NB12_13.out; have hnc5 := NB13_12.out; have hnb6 := NB12_14.out; have hnc6 := NB14_12.out; obtain ⟨Z7_0, Z7_1, Z7_2⟩ := Xc3 B12; obtain ⟨F7_0, F7_1, F7_2⟩ := Xf3 B12; have hnb8 := NB14_13.out; have hnc8 := NB13_14.out; obtain ⟨Z9_0, Z9_1, Z9_2⟩ := Xc3 B14; obtain ⟨F9_0, F9_1, F9_2⟩ := Xf3 B14; obtain ⟨Z10_0, Z10_1, Z10_2⟩ := Xc3 B13; obtain ⟨F10_0, F10_1, F10_2⟩ := Xf3 B13) | ((with_reducible refine gate_store (t := 39) (p := 2) rfl ?_); refine store_event (t := 39) (p := 2) (v := ?vo_w11) (w1 := ((((((w4.setCell ⟨gb14, 0, none⟩ (.int .i64 a0_0)).setCell ⟨gb14, 1, none⟩ (.int .i64 a0_1)).setCell ⟨gb14, 2, none⟩ (.int .i64 a0_2)).setCell ⟨gb13, 0, none⟩ (.int .i64 a0_0)).setCell ⟨gb13, 1, none⟩ (.int .i64 a0_1)).setCell ⟨gb13, 2, none⟩ (.int .i64 a0_2))) ?hg ?ho ?hn ?hr ?_; (case ho => rfl); (case hg => rfl); (case hn => rfl); (case hr => first | (go_simp; done) | (go_simp; rfl)); intro w11 hw; have n0_ : Aside0 (w11.heap[gb12]? = some (.cells #[.int .i64 a0_0, .int .i64 a0_1, .int .i64 a0_2] 27 (0, 0))) := ⟨(by rw [hw]; exact (by refine Xu ?_; refine blk_far ?_ NB12_13.out _; refine Xu ?_; refine blk_far ?_ NB12_13.out _; refine Xu ?_; refine blk_far ?_ NB12_13.out _; refine Xu ?_; refine blk_far ?_ NB12_14.out _; refine Xu ?_; refine blk_far ?_ NB12_14.out _; refine Xu ?_; refine blk_far ?_ NB12_14.out _; refine Xu ?_; exact B12.out))⟩; have n1_ : Aside0 (w11.heap[gb13]? = some (.cells #[.int .i64 a0_0, .int .i64 a0_1, .int .i64 a0_2] 39 (0, 0))) := ⟨(by rw [hw]; exact (by refine Xu ?_; refine blk_put (cs := #[.int .i64 a0_0, .int .i64 a0_1, .int .i64 0]) ?_ 2 _ rfl; refine Xu ?_; refine blk_put (cs := #[.int .i64 a0_0, .int .i64 0, .int .i64 0]) ?_ 1 _ rfl; refine Xu ?_; refine blk_put (cs := #[.int .i64 0, .int .i64 0, .int .i64 0]) ?_ 0 _ rfl; refine Xu ?_; refine blk_far ?_ NB13_14.out _; refine Xu ?_; refine blk_far ?_ NB13_14.out _; refine Xu ?_; refine blk_far ?_ NB13_14.out _; refine Xu ?_; exact B13.out))⟩; have n2_ : Aside0 (w11.heap[gb14]? = some (.cells #[.int .i64 a0_0, .int .i64 a0_1, .int .i64 a0_2] 39 (0, 0))) := ⟨(by rw [hw]; exact (by refine Xu ?_; refine blk_far ?_ NB14_13.out _; refine Xu ?_; refine blk_far ?_ NB14_13.out _; refine Xu ?_; refine blk_far ?_ NB14_13.out _; refine Xu ?_; refine blk_put (cs := #[.int .i64 a0_0, .int .i64 a0_1, .int .i64 0]) ?_ 2 _ rfl; refine Xu ?_; refine blk_put (cs := #[.int .i64 a0_0, .int .i64 0, .int .i64 0]) ?_ 1 _ rfl; refine Xu ?_; refine blk_put (cs := #[.int .i64 0, .int .i64 0, .int .i64 0]) ?_ 0 _ rfl; refine Xu ?_; exact B14.out))⟩; have n3_ : Aside0 (Below w.heap.size w w11) := ⟨(by rw [hw]; exact Xi)⟩; clear hw; clear B12; clear B13; clear B14; clear HB; have B12 := n0_; have B13 := n1_; have B14 := n2_; have HB := n3_; clear n0_ n1_ n2_ n3_))
 refine bodyPost_ret (results_cell_row rfl _ _ gb13 39 #[.int .i64 a0_0, .int .i64 a0_1, .int .i64 a0_2] (0, 0) _ rfl B13.out Tryz.underlying39 rfl (by kernel_rfl)) rfl ?_
 exact ⟨Xe, Xi⟩
def laws_toHoldS.l0 : Nat → List (S27) → List (S39) → Int → Option ((List (S39)))
 | 0, _, _, _ => none
 | k + 1, x0, x3, x4 => if x4 < (x0.length : Int) then (if 0 ≤ x4 then ((laws_toHold.f ((rd_T27 x0 x4).f0) ((rd_T27 x0 x4).f1) ((rd_T27 x0 x4).f2)).bind fun bt162 => (if x4 < (x3.length : Int) then (laws_toHoldS.l0 k x0 (x3.set (x4 : Int).toNat (⟨bt162.1, bt162.2.1, bt162.2.2⟩ : S39)) (wrap64 (x4 + 1))) else (none))) else (none)) else (some x3)
def laws_toHoldS.f (k : Nat) (l0 : List (S27)) : Option ((List (S39))) := if 0 ≤ (l0.length : Int) then (if ((l0.length : Int) : Int).toNat ≤ 11728124029610 then (laws_toHoldS.l0 k l0 (List.replicate ((l0.length : Int) : Int).toNat z39) 0) else (none)) else (none)
theorem laws_toHoldS.calls (k : Nat) (A0 : Option Addr) (c0 : Nat) (l0 : List (S27)) (r : List (S39)) (w : World) (hr0 : Kd.C k27 w A0 l0.length l0) (hc0 : l0.length ≤ c0) (h : laws_toHoldS.f k l0 = some r) :
  Calls Tryz.prog 11 #[.slice A0 l0.length c0] w fun e w' => ∃ v0_ : Value, e = .returned (v0_) ∧ Kd.R k39 39 w' w.heap.size (fun _ => True) v0_ r ∧ Below w.heap.size w w' := by
 have hu27 := Tryz.underlying27
 have hu39 := Tryz.underlying39
 have HR0 := Am hr0
 have HC0 := Am hc0
 clear hr0 hc0
 have HB := Am (Below.refl w.heap.size w)
 have H : (if 0 ≤ (l0.length : Int) then (if ((l0.length : Int) : Int).toNat ≤ 11728124029610 then (laws_toHoldS.l0 k l0 (List.replicate ((l0.length : Int) : Int).toNat z39) 0) else (none)) else (none)) = some r := h
 clear h
 obtain ⟨c2, H⟩ | ⟨c2, H⟩ := Xiu H
 ·have c2b0 := eq_true c2
  have c2b1 : decide (0 ≤ (l0.length : Int)) = true := decide_eq_true c2
  clear c2
  obtain ⟨c3, H⟩ := Xif H
  have c3b0 := eq_true c3
  have c3b1 : decide (((l0.length : Int) : Int).toNat ≤ 11728124029610) = true := decide_eq_true c3
  clear c3
  obtain ⟨y14, hy14⟩ : ∃ y_ : List (S39), y_ = (List.replicate ((l0.length : Int) : Int).toNat z39) := ⟨_, rfl⟩
  replace H : (laws_toHoldS.l0 k l0 y14 0) = some r := by first | (rw [hy14]; with_reducible exact H) | (have H2_ := (Option.bind_some _ _).symm.trans H; rw [hy14]; with_reducible exact H2_) | (have H2_ := (Option.bind_some _ _).symm.trans H; with_reducible exact H2_) | with_reducible exact H | (rw [hy14]; exact H) | exact H
  have Ny14 := Am hy14
  clear hy14
  have H' := Am H
  clear H
  go_enter Tryz.func11, Tryz.ntmps11
  go_wp2_with (first | ((with_reducible refine gate_dst (N := 7) rfl ?_); refine Kd.R_make k39 _ 39 rfl (N := 7) rfl 37 _ _ rfl (l0.length : Int) rfl rfl Tryz.underlying37 (.agg #[(.int .i64 0), (.int .i64 0), (.int .i64 0)]) 24 info39 rfl (by decide) (by omega) z39 (ok := fun _ => True) (okp := fun _ => True) (k39_mkM _ _ _ z39 ) (fun _ hk => hk) trivial (Xo) (Nat.le_trans (Nat.mul_le_mul_right _ (Xo : (l0.length : Int).toNat ≤ 11728124029610)) (by omega)) (Below.refl _ _) (Nat.le_refl _) ?_; intro v159 w4 ho5 hb hg_ hnew_; clear hg_ hnew_; (first | rw [← Ny14.out] at ho5 | (simp only [Int.reduceToNat] at ho5; rw [← Ny14.out] at ho5)); have HO15 := Am (Kd.R_lower ho5 (below_size Xi)); replace HB := Xhb hb; clear hb ho5))
  go_loopg [4] k (fun kq v4 w' => ∃ (x3_1 : List (S39)) (x4_1 : Int), v4 = .int .i64 x4_1 ∧ Aside0 (laws_toHoldS.l0 kq l0 x3_1 x4_1 = some r) ∧ Aside0 (kq ≤ k) ∧ Aside0 (Kd.R k39 39 w' w.heap.size (fun _ => True) v159 x3_1) ∧ Aside0 (Below w.heap.size w w'))
  case atStart => exact ⟨(y14), (0), Xr, H', Xkr, (Xp' HO15), ⟨Xi⟩⟩
  clear H'
  (try clear c2); (try clear c2b0); (try clear c2b1); (try clear c3); (try clear c3b0); (try clear c3b1)
  obtain ⟨x3_1, x4_1, rfl, HA, HK1, O_3, HB⟩ := hrel
  cases gk with | zero => cases HA.out | succ k1 => ?_
  have H := HA.out
  clear HA
  simp only [laws_toHoldS.l0] at H
  obtain ⟨c6b0, H⟩ | ⟨c6b0, H⟩ := Xit H
  ·obtain ⟨c7b0, H⟩ := Xid H
   replace H := Option.bind_eq_some_iff.mp H
   obtain ⟨⟨t16, t17, t18⟩, A80, H⟩ := H
   try dsimp only at H
   have A8 := Am A80
   clear A80
   obtain ⟨c9b0, H⟩ := Xid H
   obtain ⟨y19, hy19⟩ : ∃ y_ : List (S39), y_ = (x3_1.set (x4_1 : Int).toNat (⟨t16, t17, t18⟩ : S39)) := ⟨_, rfl⟩
   replace H : (laws_toHoldS.l0 k1 l0 y19 (wrap64 (x4_1 + 1))) = some r := by first | (rw [hy19]; with_reducible exact H) | (have H2_ := (Option.bind_some _ _).symm.trans H; rw [hy19]; with_reducible exact H2_) | (have H2_ := (Option.bind_some _ _).symm.trans H; with_reducible exact H2_) | with_reducible exact H | (rw [hy19]; exact H) | exact H
   have Ny19 := Am hy19
   clear hy19
   have H' := Am H
   clear H
   obtain ⟨ad20, e20, p20, q20, hx20_0, hx20_1, hx20_2⟩ := at_B27 HR0 x4_1 Xa Xa HB
   cases e20
   go_wp2_with (first | ((with_reducible refine gate_callee (f := 12) rfl ?_); refine Xgo 20 Tryz.func12 #[.agg #[.int .i64 ((rd_T27 l0 x4_1).f0), .int .i64 ((rd_T27 l0 x4_1).f1), .int .i64 ((rd_T27 l0 x4_1).f2)]] ?_; (with_reducible refine (laws_toHold.calls ((rd_T27 l0 x4_1).f0) ((rd_T27 l0 x4_1).f1) ((rd_T27 l0 x4_1).f2) t16 t17 t18 _ A8.out).mono ?_); rintro e w11 ⟨rfl, hb⟩; refine ⟨_, rfl, ?_⟩; replace O_3 := Am (Kd.R_below (Xq O_3) hb); replace HB := Xhb hb; clear hb; have p10 : 0 ≤ (x4_1 : Int) := Xo; have q10 : (x4_1 : Int) < ((x3_1.length : Int) : Int) := Xo; obtain ⟨go10, co10, eo10, gb10, gl10, cl10, HG10⟩ := Kd.R_form O_3.out (by omega); (first | cases eo10 | (injection eo10 with ea_ en_ ec_; (first | subst ea_ | (injection ea_ with ea_; subst ea_)); subst ec_; clear en_)); have GB10 := Am gb10; have GG10 := Am HG10; clear gb10 gl10 HG10; obtain ⟨ce10, hcl10, hM10, hcc10, hfr10⟩ := Kd.R_elem O_3.out z39 (x4_1 : Int) p10 q10; obtain rfl := k39_openM hM10; have hx10_0 : w11.cell? ⟨go10, (x4_1 : Int).toNat * 3, none⟩ = some (.int .i64 ((rd_T39 x3_1 x4_1).f0)) := hcc10 0 _ rfl; have hx10_1 : w11.cell? ⟨go10, (x4_1 : Int).toNat * 3 + 1, none⟩ = some (.int .i64 ((rd_T39 x3_1 x4_1).f1)) := hcc10 1 _ rfl; have hx10_2 : w11.cell? ⟨go10, (x4_1 : Int).toNat * 3 + 2, none⟩ = some (.int .i64 ((rd_T39 x3_1 x4_1).f2)) := hcc10 2 _ rfl; have hf10_0 : w11.frozen? ⟨go10, (x4_1 : Int).toNat * 3, none⟩ = false := hfr10 0; have hf10_1 : w11.frozen? ⟨go10, (x4_1 : Int).toNat * 3 + 1, none⟩ = false := hfr10 1; have hf10_2 : w11.frozen? ⟨go10, (x4_1 : Int).toNat * 3 + 2, none⟩ = false := hfr10 2; clear hcl10 hcc10 hfr10; (try clear hM10); replace p10 := eq_true p10; replace q10 := eq_true q10; have HX12 := Am (show Kd.R k39 39 w11 w.heap.size (fun _ => True) (.slice (some ⟨go10, 0, none⟩) x3_1.length co10) x3_1 from (Xq O_3)); obtain ⟨ce12, hcl12, hM12, hcc12, hfr12⟩ := Kd.R_elem HX12.out z39 (x4_1 : Int) (Xo) (by have h_ : (x4_1 : Int) < ((x3_1.length : Int) : Int) := Xo; first | exact h_ | (have e_ := (Kd.R_reads' O_3.out).1; omega) | simpa using h_); obtain rfl := k39_openM hM12; have HP12 := Kd.R_seg HX12.out (x4_1 : Int) (Xo) (by have h_ : (x4_1 : Int) < ((x3_1.length : Int) : Int) := Xo; first | exact h_ | (have e_ := (Kd.R_reads' O_3.out).1; omega) | simpa using h_) (seg := [.int .i64 t16, .int .i64 t17, .int .i64 t18]) (j := 0) hcl12 hcc12 (show 3 ≤ 3 from by decide) (x' := (⟨t16, t17, t18⟩ : S39)) (k39_mkM _ _ _ (⟨t16, t17, t18⟩ : S39) ) (fun _ hk => hk); have hx12_0 := hcc12 0 _ rfl; (try simp only [show (k39).sz = 3 from rfl, Nat.mul_one, Nat.add_zero] at hx12_0); have hf12_0 := hfr12 0; (try simp only [show (k39).sz = 3 from rfl, Nat.mul_one, Nat.add_zero] at hf12_0); have hx12_1 := hcc12 1 _ rfl; (try simp only [show (k39).sz = 3 from rfl, Nat.mul_one, Nat.add_zero] at hx12_1); have hf12_1 := hfr12 1; (try simp only [show (k39).sz = 3 from rfl, Nat.mul_one, Nat.add_zero] at hf12_1); have hx12_2 := hcc12 2 _ rfl; (try simp only [show (k39).sz = 3 from rfl, Nat.mul_one, Nat.add_zero] at hx12_2); have hf12_2 := hfr12 2; (try simp only [show (k39).sz = 3 from rfl, Nat.mul_one, Nat.add_zero] at hf12_2); clear hcl12 hcc12 hfr12; (try clear hM12)) | ((with_reducible refine gate_store (t := 39) (p := 21) rfl ?_); refine store_event (t := 39) (p := 21) (v := ?vo_w13) (w1 := (((w11.setCell ⟨go10, (x4_1 : Int).toNat * 3, none⟩ (.int .i64 t16)).setCell ⟨go10, (x4_1 : Int).toNat * 3 + 1, none⟩ (.int .i64 t17)).setCell ⟨go10, (x4_1 : Int).toNat * 3 + 2, none⟩ (.int .i64 t18))) ?hg ?ho ?hn ?hr ?_; (case ho => rfl); (case hg => rfl); (case hn => rfl); (case hr => first | (go_simp; done) | (go_simp; rfl)); intro w13 hw; have hg : w11.grownBy w13 (some go10) := (by rw [hw]; exact HP12.2); have hp_ : Kd.R k39 39 w13 w.heap.size (fun _ => True) (.slice (some ⟨go10, 0, none⟩) x3_1.length co10) y19 := (by rw [hw, Ny19.out]; exact HP12.1); clear HP12; replace O_3 := Am (hp_); replace HB := Am ((by rw [hw]; exact below_set (below_set (below_set (HB.out) GB10.out) GB10.out) GB10.out : Below w.heap.size w w13)); clear hg hw hp_))
   go_roundg k1
   case measure => have := HK1.out; omega
   case rel => exact ⟨(y19), (wrap64 (x4_1 + 1)), Xr, H', Xk1, (Xp' O_3), ⟨Xi⟩⟩
  obtain rfl := Xsi H
  go_wp2
  go_ret
  exact ⟨_, Xe, Xq O_3, Xi⟩
 exact absurd H (by simp)
def laws_toTable.f (k : Nat) (l0_0 : List (S27)) (l0_1 : List (S27)) : Option ((List (S39)) × (List (S39))) := (laws_toHoldS.f k l0_0).bind fun t10 => ((laws_toHoldS.f k l0_1).bind fun t11 => (some (t10, t11)))
theorem laws_toTable.calls (k : Nat) (A0_0 : Option Addr) (c0_0 : Nat) (l0_0 : List (S27)) (A0_1 : Option Addr) (c0_1 : Nat) (l0_1 : List (S27)) (r1 : List (S39)) (r2 : List (S39)) (w : World) (hr0_0 : Kd.C k27 w A0_0 l0_0.length l0_0) (hc0_0 : l0_0.length ≤ c0_0) (hr0_1 : Kd.C k27 w A0_1 l0_1.length l0_1) (hc0_1 : l0_1.length ≤ c0_1) (h : laws_toTable.f k l0_0 l0_1 = some (r1, r2)) :
  Calls Tryz.prog 23 #[.agg #[.slice A0_0 l0_0.length c0_0, .slice A0_1 l0_1.length c0_1]] w fun e w' => ∃ v0_ v1_ : Value, e = .returned (.agg #[v0_, v1_]) ∧ Kd.R k39 39 w' w.heap.size (fun k_ => some k_ ≠ (v1_ : Value).ownBlock) v0_ r1 ∧ Kd.R k39 39 w' w.heap.size (fun k_ => some k_ ≠ (v0_ : Value).ownBlock) v1_ r2 ∧ Below w.heap.size w w' := by
 have hu49 := Tryz.underlying49
 have hu53 := Tryz.underlying53
 have HR0_0 := Am hr0_0
 have HC0_0 := Am hc0_0
 clear hr0_0 hc0_0
 have HR0_1 := Am hr0_1
 have HC0_1 := Am hc0_1
 clear hr0_1 hc0_1
 have HB := Am (Below.refl w.heap.size w)
 have H : ((laws_toHoldS.f k l0_0).bind fun t19 => ((laws_toHoldS.f k l0_1).bind fun t20 => (some (t19, t20)))) = some (r1, r2) := h
 clear h
 obtain ⟨t19, A2, H⟩ := Xbi H
 try dsimp only at H
 obtain ⟨t20, A3, H⟩ := Xbi H
 try dsimp only at H
 simp only [Option.some.injEq, Prod.mk.injEq] at H
 obtain ⟨rfl, rfl⟩ := H
 go_enter Tryz.func23, Tryz.ntmps23
 go_wp2_with (first | ((with_reducible refine gate_dst (N := 1) rfl ?_); refine Xbx 1 #[.slice A0_0 l0_0.length c0_0, .slice A0_1 l0_1.length c0_1] 49 ?_; intro gb21 hg w4 B21 GE21 hb; replace HB := Xhb hb; clear hb hg) | ((with_reducible refine gate_dst (N := 2) rfl ?_); refine Xbx 2 #[.slice none 0 0, .slice none 0 0] 53 ?_; intro gb22 hg w5 B22 GE22 hb; replace HB := Xhb hb; have NB21_22 := Xnb hg B21; have NB22_21 := Xns NB21_22; replace B21 := Xbb B21 hb; clear hb hg) | ((with_reducible refine gate_dst (N := 3) rfl ?_); refine Xbx 3 #[.slice none 0 0, .slice none 0 0] 53 ?_; intro gb23 hg w6 B23 GE23 hb; replace HB := Xhb hb; have NB21_23 := Xnb hg B21; have NB23_21 := Xns NB21_23; replace B21 := Xbb B21 hb; have NB22_23 := Xnb hg B22; have NB23_22 := Xns NB22_23; replace B22 := Xbb B22 hb; clear hb hg; have hnb7 := NB21_22.out; have hnc7 := NB22_21.out; have hnb8 := NB21_23.out; have hnc8 := NB23_21.out; obtain ⟨Z9_0, Z9_1⟩ := Xc2 B21; obtain ⟨F9_0, F9_1⟩ := Xf2 B21) | ((with_reducible refine gate_callee (f := 11) rfl ?_); refine Xgo 6 Tryz.func11 #[.slice A0_0 l0_0.length c0_0] ?_; (with_reducible refine (laws_toHoldS.calls k _ _ l0_0 t19 _ ?s1 ?s2 A2.out).mono ?_); (case s1 => exact Xc HR0_0); (case s2 => exact HC0_0.out); rintro e w10 ⟨v170, rfl, ho0, hb⟩; refine ⟨_, rfl, ?_⟩; have HO24 := Am (Kd.R_lower ho0 (below_size Xi)); replace B21 := Xbb B21 hb; replace B22 := Xbb B22 hb; replace B23 := Xbb B23 hb; replace HB := Xhb hb; clear hb; (try clear ho0); obtain ⟨Ao11, co11, eo11⟩ := Kd.R_slice HO24.out; subst eo11; have hnb12 := NB23_22.out; have hnc12 := NB22_23.out; obtain ⟨Z13_0, Z13_1⟩ := Xc2 B23; obtain ⟨F13_0, F13_1⟩ := Xf2 B23; obtain ⟨Z14_0, Z14_1⟩ := Xc2 B21; obtain ⟨F14_0, F14_1⟩ := Xf2 B21) | ((with_reducible refine gate_callee (f := 11) rfl ?_); refine Xgo 10 Tryz.func11 #[.slice A0_1 l0_1.length c0_1] ?_; (with_reducible refine (laws_toHoldS.calls k _ _ l0_1 t20 _ ?s1 ?s2 A3.out).mono ?_); (case s1 => exact Xc HR0_1); (case s2 => exact HC0_1.out); rintro e w15 ⟨v173, rfl, ho0, hb⟩; refine ⟨_, rfl, ?_⟩; have HO25 := Am (Kd.R_lower (Kd.R_new' ho0 (Kd.R_lt (by (with_reducible repeat (first | apply Kd.R_alloc | apply Kd.R_drewN | apply Kd.R_drew)); exact (Kd.R_mono (Kd.R_far (p := ⟨gb23, 0, none⟩) (Kd.R_types HO24.out B23.out (by decide)) (fun _ hk => hk.2) (.slice Ao11 t19.length co11)) (fun _ h_ => h_.1))))) (below_size Xi)); replace HO24 := Am (Kd.R_elder' (by (with_reducible repeat (first | apply Kd.R_alloc | apply Kd.R_drewN | apply Kd.R_drew)); exact (Kd.R_mono (Kd.R_far (p := ⟨gb23, 0, none⟩) (Kd.R_types HO24.out B23.out (by decide)) (fun _ hk => hk.2) (.slice Ao11 t19.length co11)) (fun _ h_ => h_.1))) (Kd.R_base ho0) hb); replace B21 := Am (blk_below (g := gb21) (o := .cells #[.slice A0_0 l0_0.length c0_0, .slice A0_1 l0_1.length c0_1] 49 (0, 0)) (by refine Xu ?_; refine blk_far ?_ NB21_23.out _; refine Xu ?_; exact B21.out) hb); replace B22 := Am (blk_below (g := gb22) (o := .cells #[.slice none 0 0, .slice none 0 0] 53 (0, 0)) (by refine Xu ?_; refine blk_far ?_ NB22_23.out _; refine Xu ?_; exact B22.out) hb); replace B23 := Am (blk_below (g := gb23) (o := .cells #[.slice Ao11 t19.length co11, .slice none 0 0] 53 (0, 0)) (by refine Xu ?_; refine blk_put (cs := #[.slice none 0 0, .slice none 0 0]) ?_ 0 _ rfl; refine Xu ?_; exact B23.out) hb); replace HB := Xhb hb; clear hb; (try clear ho0); obtain ⟨Ao16, co16, eo16⟩ := Kd.R_slice HO25.out; subst eo16; obtain ⟨Z17_0, Z17_1⟩ := Xc2 B23; obtain ⟨F17_0, F17_1⟩ := Xf2 B23; obtain ⟨Z18_0, Z18_1⟩ := Xc2 B22; obtain ⟨F18_0, F18_1⟩ := Xf2 B22))
 refine bodyPost_ret (results_cell_row rfl _ _ gb22 53 #[.slice Ao11 t19.length co11, .slice Ao16 t20.length co16] (0, 0) _ rfl (by refine Xu ?_; refine blk_put (cs := #[.slice Ao11 t19.length co11, .slice none 0 0]) ?_ 1 _ rfl; refine Xu ?_; refine blk_put (cs := #[.slice none 0 0, .slice none 0 0]) ?_ 0 _ rfl; refine Xu ?_; refine blk_far ?_ NB22_23.out _; refine Xu ?_; exact B22.out) Tryz.underlying53 rfl (by kernel_rfl)) rfl ?_
 exact ⟨_, _, by first | rfl | (simp <;> rfl) | (simp [*] <;> rfl), by (with_reducible repeat (first | apply Kd.R_alloc | apply Kd.R_drewN | apply Kd.R_drew)); exact Kd.R_mono (Kd.R_far (p := ⟨gb22, 1, none⟩) (Kd.R_far (p := ⟨gb22, 0, none⟩) (Kd.R_far (p := ⟨gb23, 1, none⟩) (Kd.R_types (Kd.R_types HO24.out B23.out (by decide)) B22.out (by decide)) (fun _ hk => hk.1.2) (.slice Ao16 t20.length co16)) (fun _ hk => hk.2) (.slice Ao11 t19.length co11)) (fun _ hk => hk.2) (.slice Ao16 t20.length co16)) (fun _ hk => hk.1.1.2), by (with_reducible repeat (first | apply Kd.R_alloc | apply Kd.R_drewN | apply Kd.R_drew)); exact Kd.R_mono (Kd.R_far (p := ⟨gb22, 1, none⟩) (Kd.R_far (p := ⟨gb22, 0, none⟩) (Kd.R_far (p := ⟨gb23, 1, none⟩) (Kd.R_types (Kd.R_types HO25.out B23.out (by decide)) B22.out (by decide)) (fun _ hk => hk.1.2) (.slice Ao16 t20.length co16)) (fun _ hk => hk.2) (.slice Ao11 t19.length co11)) (fun _ hk => hk.2) (.slice Ao16 t20.length co16)) (fun _ hk => hk.1.1.2), Xi⟩
def laws_eqHold.f (a0_0 : Int) (a0_1 : Int) (a0_2 : Int) (a1_0 : Int) (a1_1 : Int) (a1_2 : Int) : Option (Bool) := if a0_0 = a1_0 then (if a0_1 = a1_1 then (if a0_2 = a1_2 then (some true) else (some false)) else (some false)) else (some false)
theorem laws_eqHold.calls (a0_0 : Int) (a0_1 : Int) (a0_2 : Int) (a1_0 : Int) (a1_1 : Int) (a1_2 : Int) (r : Bool) (w : World) (h : laws_eqHold.f a0_0 a0_1 a0_2 a1_0 a1_1 a1_2 = some r) :
  Calls Tryz.prog 52 #[.agg #[.int .i64 a0_0, .int .i64 a0_1, .int .i64 a0_2], .agg #[.int .i64 a1_0, .int .i64 a1_1, .int .i64 a1_2]] w fun e w' => e = .returned (.bool r) ∧ Below w.heap.size w w' := by
 have hu39 := Tryz.underlying39
 have HB := Am (Below.refl w.heap.size w)
 have H : (if a0_0 = a1_0 then (if a0_1 = a1_1 then (if a0_2 = a1_2 then (some true) else (some false)) else (some false)) else (some false)) = some r := h
 clear h
 have HC3 := Am H
 clear H
 go_enter Tryz.func52, Tryz.ntmps52
 go_upto_if 9 with (first | ((with_reducible refine gate_dst (N := 2) rfl ?_); refine Xbx 2 #[.int .i64 a0_0, .int .i64 a0_1, .int .i64 a0_2] 39 ?_; intro gb21 hg w4 B21 GE21 hb; replace HB := Xhb hb; clear hb hg) | ((with_reducible refine gate_dst (N := 3) rfl ?_); refine Xbx 3 #[.int .i64 a1_0, .int .i64 a1_1, .int .i64 a1_2] 39 ?_; intro gb22 hg w5 B22 GE22 hb; replace HB := Xhb hb; have NB21_22 := Xnb hg B21; have NB22_21 := Xns NB21_22; replace B21 := Xbb B21 hb; clear hb hg; have hnb6 := NB21_22.out; have hnc6 := NB22_21.out; obtain ⟨Z7_0, Z7_1, Z7_2⟩ := Xc3 B21; obtain ⟨Z8_0, Z8_1, Z8_2⟩ := Xc3 B22))
 have H := HC3.out
 clear HC3
 obtain ⟨c9, H⟩ | ⟨c9, H⟩ := Xiu H
 ·have c9b0 : (a0_0 == a1_0) = true := beq_iff_eq.mpr c9
  have c9b1 : (a0_0 != a1_0) = false := bne_eq_false_iff_eq.mpr c9
  clear c9
  (first | rw [c9b0] | (simp only [i64_w, i32_w]; rw [c9b0]) | skip)
  obtain ⟨c10, H⟩ | ⟨c10, H⟩ := Xiu H
  ·have c10b0 : (a0_1 == a1_1) = true := beq_iff_eq.mpr c10
   have c10b1 : (a0_1 != a1_1) = false := bne_eq_false_iff_eq.mpr c10
   clear c10
   obtain ⟨c11, H⟩ | ⟨c11, H⟩ := Xiu H
   ·have c11b0 : (a0_2 == a1_2) = true := beq_iff_eq.mpr c11
    have c11b1 : (a0_2 != a1_2) = false := bne_eq_false_iff_eq.mpr c11
    clear c11
    obtain rfl := Xsi H
    have hnb12 := NB21_22.out
    have hnc12 := NB22_21.out
    obtain ⟨Z13_0, Z13_1, Z13_2⟩ := Xc3 B21
    obtain ⟨Z14_0, Z14_1, Z14_2⟩ := Xc3 B22
    go_wp2
    go_ret
    exact ⟨Xe, Xi⟩
   have c11b0 : (a0_2 == a1_2) = false := beq_eq_false_iff_ne.mpr c11
   have c11b1 : (a0_2 != a1_2) = true := bne_iff_ne.mpr c11
   obtain rfl := Xsi H
   have hnb15 := NB21_22.out
   have hnc15 := NB22_21.out
   obtain ⟨Z16_0, Z16_1, Z16_2⟩ := Xc3 B21
   obtain ⟨Z17_0, Z17_1, Z17_2⟩ := Xc3 B22
   go_wp2
   go_ret
   exact ⟨Xe, Xi⟩
  have c10b0 : (a0_1 == a1_1) = false := beq_eq_false_iff_ne.mpr c10
  have c10b1 : (a0_1 != a1_1) = true := bne_iff_ne.mpr c10
  obtain rfl := Xsi H
  have hnb18 := NB21_22.out
  have hnc18 := NB22_21.out
  obtain ⟨Z19_0, Z19_1, Z19_2⟩ := Xc3 B21
  obtain ⟨Z20_0, Z20_1, Z20_2⟩ := Xc3 B22
  go_wp2
  go_ret
  exact ⟨Xe, Xi⟩
 have c9b0 : (a0_0 == a1_0) = false := beq_eq_false_iff_ne.mpr c9
 have c9b1 : (a0_0 != a1_0) = true := bne_iff_ne.mpr c9
 (first | rw [c9b0] | (simp only [i64_w, i32_w]; rw [c9b0]) | skip)
 obtain rfl := Xsi H
 go_wp2
 go_ret
 exact ⟨Xe, Xi⟩
def laws_eqHoldS.l0 : Nat → List (S39) → List (S39) → Int → Option (Bool)
 | 0, _, _, _ => none
 | k + 1, x0, x1, x5 => if x5 < (x0.length : Int) then (if 0 ≤ x5 then (if x5 < (x1.length : Int) then ((laws_eqHold.f ((rd_T39 x0 x5).f0) ((rd_T39 x0 x5).f1) ((rd_T39 x0 x5).f2) ((rd_T39 x1 x5).f0) ((rd_T39 x1 x5).f1) ((rd_T39 x1 x5).f2)).bind fun t10 => (if t10 = true then (laws_eqHoldS.l0 k x0 x1 (wrap64 (x5 + 1))) else (some false))) else (none)) else (none)) else (some true)
def laws_eqHoldS.f (k : Nat) (l0 : List (S39)) (l1 : List (S39)) : Option (Bool) := if (l0.length : Int) = (l1.length : Int) then (laws_eqHoldS.l0 k l0 l1 0) else (some false)
def laws_eqHoldS.T6 : Bool × List (List Nat × List Nat) := (true, [([], []), ([], []), ([0, 1], [0, 1]), ([2], [2]), ([], []), ([], []), ([4, 5], [4, 5]), ([6], [6]), ([3, 7], [3, 7]), ([8], [8])])
def laws_eqHoldS.B6 : List Nat := [0, 0, 3, 7, 0, 0, 48, 112, 255, 511]
theorem laws_eqHoldS.tab6 : rtab .any (opsOf Tryz.f16 6) = laws_eqHoldS.T6 := by kernel_rfl
theorem laws_eqHoldS.bits6 : waitsOk laws_eqHoldS.T6.2 laws_eqHoldS.B6 = true := by kernel_rfl
theorem laws_eqHoldS.calls (k : Nat) (A0 : Option Addr) (c0 : Nat) (l0 : List (S39)) (A1 : Option Addr) (c1 : Nat) (l1 : List (S39)) (r : Bool) (w : World) (hr0 : Kd.C k39 w A0 l0.length l0) (hc0 : l0.length ≤ c0) (hr1 : Kd.C k39 w A1 l1.length l1) (hc1 : l1.length ≤ c1) (h : laws_eqHoldS.f k l0 l1 = some r) :
  Calls Tryz.prog 16 #[.slice A0 l0.length c0, .slice A1 l1.length c1] w fun e w' => e = .returned (.bool r) ∧ Below w.heap.size w w' := by
 have hu39 := Tryz.underlying39
 have HR0 := Am hr0
 have HC0 := Am hc0
 clear hr0 hc0
 have HR1 := Am hr1
 have HC1 := Am hc1
 clear hr1 hc1
 have HB := Am (Below.refl w.heap.size w)
 have H : (if (l0.length : Int) = (l1.length : Int) then (laws_eqHoldS.l0 k l0 l1 0) else (some false)) = some r := h
 clear h
 obtain ⟨c3, H⟩ | ⟨c3, H⟩ := Xiu H
 ·have c3b0 : ((l0.length : Int) == (l1.length : Int)) = true := beq_iff_eq.mpr c3
  have c3b1 : ((l0.length : Int) != (l1.length : Int)) = false := bne_eq_false_iff_eq.mpr c3
  have c3b2 : (l0.length == l1.length) = true := by first | simpa using c3 | (simp at c3 ⊢; omega)
  clear c3
  have H' := Am H
  clear H
  go_enter Tryz.func16, Tryz.ntmps16
  go_wp2
  go_loopg [5] k (fun kq v5 w' => ∃ (x5_1 : Int), v5 = .int .i64 x5_1 ∧ Aside0 (laws_eqHoldS.l0 kq l0 l1 x5_1 = some r) ∧ Aside0 (kq ≤ k) ∧ Aside0 (Below w.heap.size w w'))
  case atStart => exact ⟨(0), Xr, H', Xkr, ⟨Xi⟩⟩
  clear H'
  (try clear c1); (try clear c3); (try clear c3b0); (try clear c3b1); (try clear c3b2)
  obtain ⟨x5_1, rfl, HA, HK1, HB⟩ := hrel
  cases gk with | zero => cases HA.out | succ k1 => ?_
  have H := HA.out
  clear HA
  simp only [laws_eqHoldS.l0] at H
  obtain ⟨c4b0, H⟩ | ⟨c4b0, H⟩ := Xit H
  ·obtain ⟨c5b0, H⟩ := Xid H
   obtain ⟨c6b0, H⟩ := Xid H
   obtain ⟨t12, A7, H⟩ := Xbi H
   try dsimp only at H
   have HC8 := Am H
   clear H
   try go_wp2_with (fail)
   replace HB := Xhd HB
   have p13 : 0 ≤ (x5_1 : Int) := Xo
   have q13 : x5_1 < (l0.length : Int) := Xo
   obtain ⟨ad13, e13, hx13_0, hx13_1, hx13_2⟩ := at_T39 HR0.out x5_1 p13 q13
   have hw177_2 := hx13_2
   have hw177_1 := hx13_1
   have hw177_0 := hx13_0
   cases e13
   replace hx13_0 := Xm HB hx13_0
   replace hx13_1 := Xm HB hx13_1
   replace hx13_2 := Xm HB hx13_2
   replace p13 := eq_true p13
   replace q13 := eq_true q13
   have p14 : 0 ≤ (x5_1 : Int) := Xo
   have q14 : x5_1 < (l1.length : Int) := Xo
   obtain ⟨ad14, e14, hx14_0, hx14_1, hx14_2⟩ := at_T39 HR1.out x5_1 p14 q14
   have hw178_2 := hx14_2
   have hw178_1 := hx14_1
   have hw178_0 := hx14_0
   cases e14
   replace hx14_0 := Xm HB hx14_0
   replace hx14_1 := Xm HB hx14_1
   replace hx14_2 := Xm HB hx14_2
   replace p14 := eq_true p14
   replace q14 := eq_true q14
   refine Sx 10 (fun w' => w'.cell? (ad13.add ((x5_1).toNat * 3)) = some (.int .i64 ((rd_T39 l0 x5_1).f0)) ∧ w'.cell? ⟨(ad13.add ((x5_1).toNat * 3)).block, (ad13.add ((x5_1).toNat * 3)).off + 1, none⟩ = some (.int .i64 ((rd_T39 l0 x5_1).f1)) ∧ w'.cell? ⟨(ad13.add ((x5_1).toNat * 3)).block, (ad13.add ((x5_1).toNat * 3)).off + 2, none⟩ = some (.int .i64 ((rd_T39 l0 x5_1).f2)) ∧ w'.cell? (ad14.add ((x5_1).toNat * 3)) = some (.int .i64 ((rd_T39 l1 x5_1).f0)) ∧ w'.cell? ⟨(ad14.add ((x5_1).toNat * 3)).block, (ad14.add ((x5_1).toNat * 3)).off + 1, none⟩ = some (.int .i64 ((rd_T39 l1 x5_1).f1)) ∧ w'.cell? ⟨(ad14.add ((x5_1).toNat * 3)).block, (ad14.add ((x5_1).toNat * 3)).off + 2, none⟩ = some (.int .i64 ((rd_T39 l1 x5_1).f2))) ⟨Xn hw177_0, Xn hw177_1, Xn hw177_2, Xn hw178_0, Xn hw178_1, Xn hw178_2⟩ (fun hHeld => ?_); refine with_tabW laws_eqHoldS.tab6 laws_eqHoldS.bits6 (fun HT_ HW_ => ?_)
   generalize wr.drew = w9 at HB hx13_0 hx13_1 hx13_2 hx14_0 hx14_1 hx14_2 hHeld ⊢
   refine Pu 0 17 10 1 ?_
   refine Pu 1 18 10 3 ?_
   refine Pu 2 19 10 7 ?_
   refine Pu 4 21 10 23 ?_
   refine Pu 5 22 10 55 ?_
   refine Pu 6 23 10 119 ?_
   refine Ta 3 20 10 127 ?_
   refine Ta 7 24 10 255 ?_
   refine On 8 25 10 511 (fun K hK => ?_)
   refine Gs Tryz.func52 #[.agg #[.int .i64 ((rd_T39 l0 x5_1).f0), .int .i64 ((rd_T39 l0 x5_1).f1), .int .i64 ((rd_T39 l0 x5_1).f2)], .agg #[.int .i64 ((rd_T39 l1 x5_1).f0), .int .i64 ((rd_T39 l1 x5_1).f1), .int .i64 ((rd_T39 l1 x5_1).f2)]] ?_
   with_reducible refine (laws_eqHold.calls ((rd_T39 l0 x5_1).f0) ((rd_T39 l0 x5_1).f1) ((rd_T39 l0 x5_1).f2) ((rd_T39 l1 x5_1).f0) ((rd_T39 l1 x5_1).f1) ((rd_T39 l1 x5_1).f2) t12 _ A7.out).mono ?_
   rintro e w10 ⟨rfl, hb⟩
   refine ⟨_, rfl, ?_⟩
   replace HB := Xhb hb
   try clear hb
   try clear hb2
   try clear hk
   try clear hi
   refine hK.out _ _ ⟨Xn hw177_0, Xn hw177_1, Xn hw177_2, Xn hw178_0, Xn hw178_1, Xn hw178_2⟩ (fun hHeld => ?_)
   clear hK K
   refine Xno ?_
   refine Pu 9 26 10 1023 ?_
   refine Dn ?_
   go_upto_if 26 with (fail)
   have H := HC8.out
   clear HC8
   by_cases c11 : t12 = true
   ·subst c11
    try rw [if_pos rfl] at H
    have H' := Am H
    clear H
    go_wp2
    go_roundg k1
    case measure => have := HK1.out; omega
    case rel => exact ⟨(wrap64 (x5_1 + 1)), Xr, H', Xk1, ⟨Xi⟩⟩
   replace c11 := Xbf c11
   subst c11
   try rw [if_neg Xft] at H
   obtain rfl := Xsi H
   go_wp2
   go_ret
   exact ⟨Xe, Xi⟩
  obtain rfl := Xsi H
  go_wp2
  go_ret
  exact ⟨Xe, Xi⟩
 have c3b0 : ((l0.length : Int) == (l1.length : Int)) = false := beq_eq_false_iff_ne.mpr c3
 have c3b1 : ((l0.length : Int) != (l1.length : Int)) = true := bne_iff_ne.mpr c3
 have c3b2 : (l0.length == l1.length) = false := by first | simpa using c3 | (simp at c3 ⊢; omega)
 obtain rfl := Xsi H
 go_enter Tryz.func16, Tryz.ntmps16
 go_wp2
 go_ret
 exact ⟨Xe, Xi⟩
def laws_eqTable.f (k : Nat) (l0_0 : List (S39)) (l0_1 : List (S39)) (l1_0 : List (S39)) (l1_1 : List (S39)) : Option (Bool) := (laws_eqHoldS.f k l0_0 l1_0).bind fun t10 => (if t10 = true then ((laws_eqHoldS.f k l0_1 l1_1).bind fun t11 => (if t11 = true then (some true) else (some false))) else (some false))
theorem laws_eqTable.calls (k : Nat) (A0_0 : Option Addr) (c0_0 : Nat) (l0_0 : List (S39)) (A0_1 : Option Addr) (c0_1 : Nat) (l0_1 : List (S39)) (A1_0 : Option Addr) (c1_0 : Nat) (l1_0 : List (S39)) (A1_1 : Option Addr) (c1_1 : Nat) (l1_1 : List (S39)) (r : Bool) (w : World) (hr0_0 : Kd.C k39 w A0_0 l0_0.length l0_0) (hc0_0 : l0_0.length ≤ c0_0) (hr0_1 : Kd.C k39 w A0_1 l0_1.length l0_1) (hc0_1 : l0_1.length ≤ c0_1) (hr1_0 : Kd.C k39 w A1_0 l1_0.length l1_0) (hc1_0 : l1_0.length ≤ c1_0) (hr1_1 : Kd.C k39 w A1_1 l1_1.length l1_1) (hc1_1 : l1_1.length ≤ c1_1) (h : laws_eqTable.f k l0_0 l0_1 l1_0 l1_1 = some r) :
  Calls Tryz.prog 25 #[.agg #[.slice A0_0 l0_0.length c0_0, .slice A0_1 l0_1.length c0_1], .agg #[.slice A1_0 l1_0.length c1_0, .slice A1_1 l1_1.length c1_1]] w fun e w' => e = .returned (.bool r) ∧ Below w.heap.size w w' := by
 have hu53 := Tryz.underlying53
 have HR0_0 := Am hr0_0
 have HC0_0 := Am hc0_0
 clear hr0_0 hc0_0
 have HR0_1 := Am hr0_1
 have HC0_1 := Am hc0_1
 clear hr0_1 hc0_1
 have HR1_0 := Am hr1_0
 have HC1_0 := Am hc1_0
 clear hr1_0 hc1_0
 have HR1_1 := Am hr1_1
 have HC1_1 := Am hc1_1
 clear hr1_1 hc1_1
 have HB := Am (Below.refl w.heap.size w)
 have H : ((laws_eqHoldS.f k l0_0 l1_0).bind fun t19 => (if t19 = true then ((laws_eqHoldS.f k l0_1 l1_1).bind fun t20 => (if t20 = true then (some true) else (some false))) else (some false))) = some r := h
 clear h
 obtain ⟨t19, A3, H⟩ := Xbi H
 try dsimp only at H
 have HC4 := Am H
 clear H
 go_enter Tryz.func25, Tryz.ntmps25
 go_upto_if 10 with (first | ((with_reducible refine gate_dst (N := 2) rfl ?_); refine Xbx 2 #[.slice A0_0 l0_0.length c0_0, .slice A0_1 l0_1.length c0_1] 53 ?_; intro gb21 hg w5 B21 GE21 hb; replace HB := Xhb hb; clear hb hg) | ((with_reducible refine gate_dst (N := 3) rfl ?_); refine Xbx 3 #[.slice A1_0 l1_0.length c1_0, .slice A1_1 l1_1.length c1_1] 53 ?_; intro gb22 hg w6 B22 GE22 hb; replace HB := Xhb hb; have NB21_22 := Xnb hg B21; have NB22_21 := Xns NB21_22; replace B21 := Xbb B21 hb; clear hb hg; have hnb7 := NB21_22.out; have hnc7 := NB22_21.out; obtain ⟨Z8_0, Z8_1⟩ := Xc2 B21; obtain ⟨Z9_0, Z9_1⟩ := Xc2 B22) | ((with_reducible refine gate_callee (f := 16) rfl ?_); refine Xgo 9 Tryz.func16 #[.slice A0_0 l0_0.length c0_0, .slice A1_0 l1_0.length c1_0] ?_; (with_reducible refine (laws_eqHoldS.calls k _ _ l0_0 _ _ l1_0 t19 _ ?s1 ?s2 ?s3 ?s4 A3.out).mono ?_); (case s1 => exact Xc HR0_0); (case s2 => exact HC0_0.out); (case s3 => exact Xc HR1_0); (case s4 => exact HC1_0.out); rintro e w10 ⟨rfl, hb⟩; refine ⟨_, rfl, ?_⟩; replace B21 := Xbb B21 hb; replace B22 := Xbb B22 hb; replace HB := Xhb hb; clear hb))
 have H := HC4.out
 clear HC4
 by_cases c11 : t19 = true
 ·subst c11
  try rw [if_pos rfl] at H
  obtain ⟨t20, A12, H⟩ := Xbi H
  try dsimp only at H
  have HC13 := Am H
  clear H
  have hnb14 := NB21_22.out
  have hnc14 := NB22_21.out
  obtain ⟨Z15_0, Z15_1⟩ := Xc2 B21
  obtain ⟨Z16_0, Z16_1⟩ := Xc2 B22
  go_upto_if 16 with ((with_reducible refine gate_callee (f := 16) rfl ?_); refine Xgo 15 Tryz.func16 #[.slice A0_1 l0_1.length c0_1, .slice A1_1 l1_1.length c1_1] ?_; (with_reducible refine (laws_eqHoldS.calls k _ _ l0_1 _ _ l1_1 t20 _ ?s1 ?s2 ?s3 ?s4 A12.out).mono ?_); (case s1 => exact Xc HR0_1); (case s2 => exact HC0_1.out); (case s3 => exact Xc HR1_1); (case s4 => exact HC1_1.out); rintro e w17 ⟨rfl, hb⟩; refine ⟨_, rfl, ?_⟩; replace B21 := Xbb B21 hb; replace B22 := Xbb B22 hb; replace HB := Xhb hb; clear hb)
  have H := HC13.out
  clear HC13
  by_cases c18 : t20 = true
  ·subst c18
   try rw [if_pos rfl] at H
   obtain rfl := Xsi H
   go_wp2
   go_ret
   exact ⟨Xe, Xi⟩
  replace c18 := Xbf c18
  subst c18
  try rw [if_neg Xft] at H
  obtain rfl := Xsi H
  go_wp2
  go_ret
  exact ⟨Xe, Xi⟩
 replace c11 := Xbf c11
 subst c11
 try rw [if_neg Xft] at H
 obtain rfl := Xsi H
 go_wp2
 go_ret
 exact ⟨Xe, Xi⟩
def laws_markHoldS.l0 : Nat → List (S39) → Int → Int → Option (Int × (List (S39)))
 | 0, _, _, _ => none
 | k + 1, x0, x1, x5 => if x5 < (x0.length : Int) then (if 0 ≤ x5 then ((some (x0.set (x5 : Int).toNat (⟨x1, (rd_T39 x0 x5).f1, (rd_T39 x0 x5).f2⟩ : S39) : List (S39))).bind fun y10 => ((some (y10.set (x5 : Int).toNat (⟨(rd_T39 y10 x5).f0, wrap64 (x1 + 1), (rd_T39 y10 x5).f2⟩ : S39) : List (S39))).bind fun y11 => (laws_markHoldS.l0 k (y11.set (x5 : Int).toNat (⟨(rd_T39 y11 x5).f0, (rd_T39 y11 x5).f1, wrap64 ((wrap64 (x1 + 1)) + 1)⟩ : S39)) (wrap64 ((wrap64 ((wrap64 (x1 + 1)) + 1)) + 1)) (wrap64 (x5 + 1))))) else (none)) else (some (x1, x0))
def laws_markHoldS.f (k : Nat) (l0 : List (S39)) (a1 : Int) : Option (Int × (List (S39))) := laws_markHoldS.l0 k l0 a1 0
theorem laws_markHoldS.calls (k : Nat) (P0_ : Nat → Prop) (u9000_ : Value) (l0 : List (S39)) (a1 : Int) (r1 : Int) (r2 : List (S39)) (w0 w : World) (hB : Below w0.heap.size w0 w) (ho0 : Kd.R k39 39 w w0.heap.size P0_ u9000_ l0) (h : laws_markHoldS.f k l0 a1 = some (r1, r2)) :
  Calls Tryz.prog 18 #[u9000_, .int .i64 a1] w fun e w' => e = .returned (.int .i64 r1) ∧ Kd.R k39 39 w' w0.heap.size (fun k_ => (P0_ k_ ∨ w.heap.size ≤ k_)) u9000_ r2 ∧ Below w0.heap.size w0 w' ∧ Kept w w' (fun k_ => P0_ k_) := by
 have HO0 := Am (show Kd.R k39 39 w w0.heap.size (fun k_ => (P0_ k_ ∨ w.heap.size ≤ k_)) u9000_ l0 from Kd.R_mono ho0 (fun k_ hk => (.inl hk)))
 have HK := Am (Kept.refl w (fun k_ => P0_ k_))
 have HW0 := Am hB.size
 have HB := Am hB
 clear hB
 have H : (laws_markHoldS.l0 k l0 a1 0) = some (r1, r2) := h
 clear h
 have H' := Am H
 clear H
 go_enter Tryz.func18, Tryz.ntmps18
 go_wp2
 go_loopg [1, 5] k (fun kq v1 v5 w' => ∃ (x0_1 : List (S39)) (x1_1 : Int) (x5_1 : Int), v1 = .int .i64 x1_1 ∧ v5 = .int .i64 x5_1 ∧ Aside0 (laws_markHoldS.l0 kq x0_1 x1_1 x5_1 = some (r1, r2)) ∧ Aside0 (kq ≤ k) ∧ Aside0 (Kd.R k39 39 w' w0.heap.size (fun k_ => (P0_ k_ ∨ w.heap.size ≤ k_)) u9000_ x0_1) ∧ Aside0 (Kept w w' (fun k_ => P0_ k_)) ∧ Aside0 (Below w0.heap.size w0 w'))
 case atStart => exact ⟨(l0), (a1), (0), Xr, Xr, H', Xkr, (Xp' HO0), ⟨by repeat first | (with_reducible first | exact HK.out | apply Kept.drewN | apply Kept.drew) | exact HK.out⟩, ⟨Xi⟩⟩
 clear H'
 obtain ⟨x0_1, x1_1, x5_1, rfl, rfl, HA, HK1, O_0, HK, HB⟩ := hrel
 cases gk with | zero => cases HA.out | succ k1 => ?_
 have H := HA.out
 clear HA
 simp only [laws_markHoldS.l0] at H
 obtain ⟨c3b0, H⟩ | ⟨c3b0, H⟩ := Xit H
 ·obtain ⟨c4b0, H⟩ := Xid H
  obtain ⟨y16, hy16⟩ : ∃ y_ : List (S39), y_ = (x0_1.set (x5_1 : Int).toNat (⟨x1_1, (rd_T39 x0_1 x5_1).f1, (rd_T39 x0_1 x5_1).f2⟩ : S39)) := ⟨_, rfl⟩
  replace H : ((some (y16.set (x5_1 : Int).toNat (⟨(rd_T39 y16 x5_1).f0, wrap64 (x1_1 + 1), (rd_T39 y16 x5_1).f2⟩ : S39) : List (S39))).bind fun y17 => (laws_markHoldS.l0 k1 (y17.set (x5_1 : Int).toNat (⟨(rd_T39 y17 x5_1).f0, (rd_T39 y17 x5_1).f1, wrap64 ((wrap64 (x1_1 + 1)) + 1)⟩ : S39)) (wrap64 ((wrap64 ((wrap64 (x1_1 + 1)) + 1)) + 1)) (wrap64 (x5_1 + 1)))) = some (r1, r2) := by first | (rw [hy16]; with_reducible exact H) | (have H2_ := (Option.bind_some _ _).symm.trans H; rw [hy16]; with_reducible exact H2_) | (have H2_ := (Option.bind_some _ _).symm.trans H; with_reducible exact H2_) | with_reducible exact H | (rw [hy16]; exact H) | exact H
  have Ny16 := Am hy16
  clear hy16
  obtain ⟨y17, hy17⟩ : ∃ y_ : List (S39), y_ = (y16.set (x5_1 : Int).toNat (⟨(rd_T39 y16 x5_1).f0, wrap64 (x1_1 + 1), (rd_T39 y16 x5_1).f2⟩ : S39)) := ⟨_, rfl⟩
  replace H : (laws_markHoldS.l0 k1 (y17.set (x5_1 : Int).toNat (⟨(rd_T39 y17 x5_1).f0, (rd_T39 y17 x5_1).f1, wrap64 ((wrap64 (x1_1 + 1)) + 1)⟩ : S39)) (wrap64 ((wrap64 ((wrap64 (x1_1 + 1)) + 1)) + 1)) (wrap64 (x5_1 + 1))) = some (r1, r2) := by first | (rw [hy17]; with_reducible exact H) | (have H2_ := (Option.bind_some _ _).symm.trans H; rw [hy17]; with_reducible exact H2_) | (have H2_ := (Option.bind_some _ _).symm.trans H; with_reducible exact H2_) | with_reducible exact H | (rw [hy17]; exact H) | exact H
  have Ny17 := Am hy17
  clear hy17
  obtain ⟨y18, hy18⟩ : ∃ y_ : List (S39), y_ = (y17.set (x5_1 : Int).toNat (⟨(rd_T39 y17 x5_1).f0, (rd_T39 y17 x5_1).f1, wrap64 ((wrap64 (x1_1 + 1)) + 1)⟩ : S39)) := ⟨_, rfl⟩
  replace H : (laws_markHoldS.l0 k1 y18 (wrap64 ((wrap64 ((wrap64 (x1_1 + 1)) + 1)) + 1)) (wrap64 (x5_1 + 1))) = some (r1, r2) := by first | (rw [hy18]; with_reducible exact H) | (have H2_ := (Option.bind_some _ _).symm.trans H; rw [hy18]; with_reducible exact H2_) | (have H2_ := (Option.bind_some _ _).symm.trans H; with_reducible exact H2_) | with_reducible exact H | (rw [hy18]; exact H) | exact H
  have Ny18 := Am hy18
  clear hy18
  have H' := Am H
  clear H
  obtain ⟨Ao8, co8, eo8⟩ := Kd.R_slice O_0.out
  subst eo8
  have p5 : 0 ≤ (x5_1 : Int) := Xo
  have q5 : (x5_1 : Int) < ((x0_1.length : Int) : Int) := Xo
  obtain ⟨go5, co5, eo5, gb5, gl5, cl5, HG5⟩ := Kd.R_form O_0.out (by omega)
  (first | cases eo5 | (injection eo5 with ea_ en_ ec_; (first | subst ea_ | (injection ea_ with ea_; subst ea_)); subst ec_; clear en_))
  have GB5 := Am gb5
  have GG5 := Am HG5
  clear gb5 gl5 HG5
  have HMgo5 := Am (show (P0_ go5 ∨ w.heap.size ≤ go5) from (O_0.out.1 _ rfl))
  obtain ⟨ce5, hcl5, hM5, hcc5, hfr5⟩ := Kd.R_elem O_0.out z39 (x5_1 : Int) p5 q5
  obtain rfl := k39_openM hM5
  have hx5_0 : wr.cell? ⟨go5, (x5_1 : Int).toNat * 3, none⟩ = some (.int .i64 ((rd_T39 x0_1 x5_1).f0)) := hcc5 0 _ rfl
  have hx5_1 : wr.cell? ⟨go5, (x5_1 : Int).toNat * 3 + 1, none⟩ = some (.int .i64 ((rd_T39 x0_1 x5_1).f1)) := hcc5 1 _ rfl
  have hx5_2 : wr.cell? ⟨go5, (x5_1 : Int).toNat * 3 + 2, none⟩ = some (.int .i64 ((rd_T39 x0_1 x5_1).f2)) := hcc5 2 _ rfl
  have hf5_0 : wr.frozen? ⟨go5, (x5_1 : Int).toNat * 3, none⟩ = false := hfr5 0
  have hf5_1 : wr.frozen? ⟨go5, (x5_1 : Int).toNat * 3 + 1, none⟩ = false := hfr5 1
  have hf5_2 : wr.frozen? ⟨go5, (x5_1 : Int).toNat * 3 + 2, none⟩ = false := hfr5 2
  clear hcl5 hcc5 hfr5; (try clear hM5)
  replace p5 := eq_true p5
  replace q5 := eq_true q5
  have HX9 := Am (show Kd.R k39 39 wr w0.heap.size (fun k_ => (P0_ k_ ∨ w.heap.size ≤ k_)) (.slice (some ⟨go5, 0, none⟩) x0_1.length co8) x0_1 from (Xq O_0))
  obtain ⟨ce9, hcl9, hM9, hcc9, hfr9⟩ := Kd.R_elem HX9.out z39 (x5_1 : Int) (Xo) (by have h_ : (x5_1 : Int) < ((x0_1.length : Int) : Int) := Xo; first | exact h_ | (have e_ := (Kd.R_reads' O_0.out).1; omega) | simpa using h_)
  obtain rfl := k39_openM hM9
  have HP9 := Kd.R_seg HX9.out (x5_1 : Int) (Xo) (by have h_ : (x5_1 : Int) < ((x0_1.length : Int) : Int) := Xo; first | exact h_ | (have e_ := (Kd.R_reads' O_0.out).1; omega) | simpa using h_) (seg := [.int .i64 x1_1]) (j := 0) hcl9 hcc9 (show 1 ≤ 3 from by decide) (x' := (⟨x1_1, (rd_T39 x0_1 x5_1).f1, (rd_T39 x0_1 x5_1).f2⟩ : S39)) (k39_mkM _ _ _ (⟨x1_1, (rd_T39 x0_1 x5_1).f1, (rd_T39 x0_1 x5_1).f2⟩ : S39) ) (fun _ hk => hk)
  have hx9_0 := hcc9 0 _ rfl
  (try simp only [show (k39).sz = 3 from rfl, Nat.mul_one, Nat.add_zero] at hx9_0)
  have hf9_0 := hfr9 0
  (try simp only [show (k39).sz = 3 from rfl, Nat.mul_one, Nat.add_zero] at hf9_0)
  clear hcl9 hcc9 hfr9; (try clear hM9)
  go_wp2_with (first | ((with_reducible refine gate_store (t := 3) (p := 16) rfl ?_); refine store_event (t := 3) (p := 16) (v := ?vo_w10) (w1 := (wr.setCell ⟨go5, (x5_1 : Int).toNat * 3, none⟩ (.int .i64 x1_1))) ?hg ?ho ?hn ?hr ?_; (case ho => rfl); (case hg => rfl); (case hn => rfl); (case hr => first | (go_simp; done) | (go_simp; rfl)); intro w10 hw; have hg : wr.grownBy w10 (some go5) := (by rw [hw]; exact HP9.2); have hp_ : Kd.R k39 39 w10 w0.heap.size (fun k_ => (P0_ k_ ∨ w.heap.size ≤ k_)) (.slice (some ⟨go5, 0, none⟩) x0_1.length co8) y16 := (by rw [hw, Ny16.out]; exact HP9.1); clear HP9; replace HB := Am ((by rw [hw]; exact below_set (HB.out) GB5.out : Below w0.heap.size w0 w10)); replace HK := Am (Kept.of_grown (S := (fun k_ => P0_ k_)) hg (by repeat first | (with_reducible first | exact HK.out | apply Kept.drewN | apply Kept.drew) | exact HK.out) (fun k_ e_ => (O_0.out.1 k_ e_))); replace O_0 := Am (hp_); clear hg hw hp_; have p6 : 0 ≤ (x5_1 : Int) := Xo; have q6 : (x5_1 : Int) < ((x0_1.length : Int) : Int) := Xo; obtain ⟨ce6, hcl6, hM6, hcc6, hfr6⟩ := Kd.R_elem O_0.out z39 (x5_1 : Int) p6 q6; obtain rfl := k39_openM hM6; have hx6_0 : w10.cell? ⟨go5, (x5_1 : Int).toNat * 3, none⟩ = some (.int .i64 ((rd_T39 y16 x5_1).f0)) := hcc6 0 _ rfl; have hx6_1 : w10.cell? ⟨go5, (x5_1 : Int).toNat * 3 + 1, none⟩ = some (.int .i64 ((rd_T39 y16 x5_1).f1)) := hcc6 1 _ rfl; have hx6_2 : w10.cell? ⟨go5, (x5_1 : Int).toNat * 3 + 2, none⟩ = some (.int .i64 ((rd_T39 y16 x5_1).f2)) := hcc6 2 _ rfl; have hf6_0 : w10.frozen? ⟨go5, (x5_1 : Int).toNat * 3, none⟩ = false := hfr6 0; have hf6_1 : w10.frozen? ⟨go5, (x5_1 : Int).toNat * 3 + 1, none⟩ = false := hfr6 1; have hf6_2 : w10.frozen? ⟨go5, (x5_1 : Int).toNat * 3 + 2, none⟩ = false := hfr6 2; clear hcl6 hcc6 hfr6; (try clear hM6); replace p6 := eq_true p6; replace q6 := eq_true q6; have HX11 := Am (show Kd.R k39 39 w10 w0.heap.size (fun k_ => (P0_ k_ ∨ w.heap.size ≤ k_)) (.slice (some ⟨go5, 0, none⟩) x0_1.length co8) y16 from (Xq O_0)); obtain ⟨ce11, hcl11, hM11, hcc11, hfr11⟩ := Kd.R_elem HX11.out z39 (x5_1 : Int) (Xo) (by have h_ : (x5_1 : Int) < ((x0_1.length : Int) : Int) := Xo; first | exact h_ | (have e_ := (Kd.R_reads' O_0.out).1; omega) | simpa using h_); obtain rfl := k39_openM hM11; have HP11 := Kd.R_seg HX11.out (x5_1 : Int) (Xo) (by have h_ : (x5_1 : Int) < ((x0_1.length : Int) : Int) := Xo; first | exact h_ | (have e_ := (Kd.R_reads' O_0.out).1; omega) | simpa using h_) (seg := [.int .i64 (wrap64 (x1_1 + 1))]) (j := 1) hcl11 hcc11 (show 2 ≤ 3 from by decide) (x' := (⟨(rd_T39 y16 x5_1).f0, wrap64 (x1_1 + 1), (rd_T39 y16 x5_1).f2⟩ : S39)) (k39_mkM _ _ _ (⟨(rd_T39 y16 x5_1).f0, wrap64 (x1_1 + 1), (rd_T39 y16 x5_1).f2⟩ : S39) ) (fun _ hk => hk); have hx11_1 := hcc11 1 _ rfl; (try simp only [show (k39).sz = 3 from rfl, Nat.mul_one, Nat.add_zero] at hx11_1); have hf11_1 := hfr11 1; (try simp only [show (k39).sz = 3 from rfl, Nat.mul_one, Nat.add_zero] at hf11_1); clear hcl11 hcc11 hfr11; (try clear hM11)) | ((with_reducible refine gate_store (t := 3) (p := 23) rfl ?_); refine store_event (t := 3) (p := 23) (v := ?vo_w12) (w1 := (w10.setCell ⟨go5, (x5_1 : Int).toNat * 3 + 1, none⟩ (.int .i64 (wrap64 (x1_1 + 1))))) ?hg ?ho ?hn ?hr ?_; (case ho => rfl); (case hg => rfl); (case hn => rfl); (case hr => first | (go_simp; done) | (go_simp; rfl)); intro w12 hw; have hg : w10.grownBy w12 (some go5) := (by rw [hw]; exact HP11.2); have hp_ : Kd.R k39 39 w12 w0.heap.size (fun k_ => (P0_ k_ ∨ w.heap.size ≤ k_)) (.slice (some ⟨go5, 0, none⟩) x0_1.length co8) y17 := (by rw [hw, Ny17.out]; exact HP11.1); clear HP11; replace HB := Am ((by rw [hw]; exact below_set (HB.out) GB5.out : Below w0.heap.size w0 w12)); replace HK := Am (Kept.of_grown (S := (fun k_ => P0_ k_)) hg (by repeat first | (with_reducible first | exact HK.out | apply Kept.drewN | apply Kept.drew) | exact HK.out) (fun k_ e_ => (O_0.out.1 k_ e_))); replace O_0 := Am (hp_); clear hg hw hp_; have p7 : 0 ≤ (x5_1 : Int) := Xo; have q7 : (x5_1 : Int) < ((x0_1.length : Int) : Int) := Xo; obtain ⟨ce7, hcl7, hM7, hcc7, hfr7⟩ := Kd.R_elem O_0.out z39 (x5_1 : Int) p7 q7; obtain rfl := k39_openM hM7; have hx7_0 : w12.cell? ⟨go5, (x5_1 : Int).toNat * 3, none⟩ = some (.int .i64 ((rd_T39 y17 x5_1).f0)) := hcc7 0 _ rfl; have hx7_1 : w12.cell? ⟨go5, (x5_1 : Int).toNat * 3 + 1, none⟩ = some (.int .i64 ((rd_T39 y17 x5_1).f1)) := hcc7 1 _ rfl; have hx7_2 : w12.cell? ⟨go5, (x5_1 : Int).toNat * 3 + 2, none⟩ = some (.int .i64 ((rd_T39 y17 x5_1).f2)) := hcc7 2 _ rfl; have hf7_0 : w12.frozen? ⟨go5, (x5_1 : Int).toNat * 3, none⟩ = false := hfr7 0; have hf7_1 : w12.frozen? ⟨go5, (x5_1 : Int).toNat * 3 + 1, none⟩ = false := hfr7 1; have hf7_2 : w12.frozen? ⟨go5, (x5_1 : Int).toNat * 3 + 2, none⟩ = false := hfr7 2; clear hcl7 hcc7 hfr7; (try clear hM7); replace p7 := eq_true p7; replace q7 := eq_true q7; have HX13 := Am (show Kd.R k39 39 w12 w0.heap.size (fun k_ => (P0_ k_ ∨ w.heap.size ≤ k_)) (.slice (some ⟨go5, 0, none⟩) x0_1.length co8) y17 from (Xq O_0)); obtain ⟨ce13, hcl13, hM13, hcc13, hfr13⟩ := Kd.R_elem HX13.out z39 (x5_1 : Int) (Xo) (by have h_ : (x5_1 : Int) < ((x0_1.length : Int) : Int) := Xo; first | exact h_ | (have e_ := (Kd.R_reads' O_0.out).1; omega) | simpa using h_); obtain rfl := k39_openM hM13; have HP13 := Kd.R_seg HX13.out (x5_1 : Int) (Xo) (by have h_ : (x5_1 : Int) < ((x0_1.length : Int) : Int) := Xo; first | exact h_ | (have e_ := (Kd.R_reads' O_0.out).1; omega) | simpa using h_) (seg := [.int .i64 (wrap64 ((wrap64 (x1_1 + 1)) + 1))]) (j := 2) hcl13 hcc13 (show 3 ≤ 3 from by decide) (x' := (⟨(rd_T39 y17 x5_1).f0, (rd_T39 y17 x5_1).f1, wrap64 ((wrap64 (x1_1 + 1)) + 1)⟩ : S39)) (k39_mkM _ _ _ (⟨(rd_T39 y17 x5_1).f0, (rd_T39 y17 x5_1).f1, wrap64 ((wrap64 (x1_1 + 1)) + 1)⟩ : S39) ) (fun _ hk => hk); have hx13_2 := hcc13 2 _ rfl; (try simp only [show (k39).sz = 3 from rfl, Nat.mul_one, Nat.add_zero] at hx13_2); have hf13_2 := hfr13 2; (try simp only [show (k39).sz = 3 from rfl, Nat.mul_one, Nat.add_zero] at hf13_2); clear hcl13 hcc13 hfr13; (try clear hM13)) | ((with_reducible refine gate_store (t := 3) (p := 30) rfl ?_); refine store_event (t := 3) (p := 30) (v := ?vo_w14) (w1 := (w12.setCell ⟨go5, (x5_1 : Int).toNat * 3 + 2, none⟩ (.int .i64 (wrap64 ((wrap64 (x1_1 + 1)) + 1))))) ?hg ?ho ?hn ?hr ?_; (case ho => rfl); (case hg => rfl); (case hn => rfl); (case hr => first | (go_simp; done) | (go_simp; rfl)); intro w14 hw; have hg : w12.grownBy w14 (some go5) := (by rw [hw]; exact HP13.2); have hp_ : Kd.R k39 39 w14 w0.heap.size (fun k_ => (P0_ k_ ∨ w.heap.size ≤ k_)) (.slice (some ⟨go5, 0, none⟩) x0_1.length co8) y18 := (by rw [hw, Ny18.out]; exact HP13.1); clear HP13; replace HB := Am ((by rw [hw]; exact below_set (HB.out) GB5.out : Below w0.heap.size w0 w14)); replace HK := Am (Kept.of_grown (S := (fun k_ => P0_ k_)) hg (by repeat first | (with_reducible first | exact HK.out | apply Kept.drewN | apply Kept.drew) | exact HK.out) (fun k_ e_ => (O_0.out.1 k_ e_))); replace O_0 := Am (hp_); clear hg hw hp_))
  go_roundg k1
  case measure => have := HK1.out; omega
  case rel => exact ⟨(y18), (wrap64 ((wrap64 ((wrap64 (x1_1 + 1)) + 1)) + 1)), (wrap64 (x5_1 + 1)), Xr, Xr, H', Xk1, (Xp' O_0), ⟨by repeat first | (with_reducible first | exact HK.out | apply Kept.drewN | apply Kept.drew) | exact HK.out⟩, ⟨Xi⟩⟩
 simp only [Option.some.injEq, Prod.mk.injEq] at H
 obtain ⟨rfl, rfl⟩ := H
 obtain ⟨Ao15, co15, eo15⟩ := Kd.R_slice O_0.out
 subst eo15
 go_wp2
 go_ret
 exact ⟨Xe, Xq O_0, Xi, by repeat first | (with_reducible first | exact HK.out | apply Kept.drewN | apply Kept.drew) | exact HK.out⟩
def laws_markTable.f (k : Nat) (l0_0 : List (S39)) (l0_1 : List (S39)) (a1 : Int) : Option (Int × (List (S39)) × (List (S39))) := (laws_markHoldS.f k l0_0 a1).bind fun bt188 => ((laws_markHoldS.f k l0_1 bt188.1).bind fun bt190 => (some (bt190.1, bt188.2, bt190.2)))
theorem laws_markTable.calls (k : Nat) (P0_0_ : Nat → Prop) (u9000_ : Value) (l0_0 : List (S39)) (P0_1_ : Nat → Prop) (u9001_ : Value) (l0_1 : List (S39)) (a1 : Int) (r1 : Int) (r2 : List (S39)) (r3 : List (S39)) (w0 w : World) (hB : Below w0.heap.size w0 w) (ho0_0 : Kd.R k39 39 w w0.heap.size P0_0_ u9000_ l0_0) (hp0_0_0_1 : ∀ k_, P0_0_ k_ → ¬ P0_1_ k_) (ho0_1 : Kd.R k39 39 w w0.heap.size P0_1_ u9001_ l0_1) (hp0_1_0_0 : ∀ k_, P0_1_ k_ → ¬ P0_0_ k_) (h : laws_markTable.f k l0_0 l0_1 a1 = some (r1, r2, r3)) :
  Calls Tryz.prog 26 #[.agg #[u9000_, u9001_], .int .i64 a1] w fun e w' => e = .returned (.int .i64 r1) ∧ Kd.R k39 39 w' w0.heap.size (fun k_ => ((P0_0_ k_ ∨ P0_1_ k_) ∨ w.heap.size ≤ k_)) u9000_ r2 ∧ Kd.R k39 39 w' w0.heap.size (fun k_ => ((P0_0_ k_ ∨ P0_1_ k_) ∨ w.heap.size ≤ k_)) u9001_ r3 ∧ Below w0.heap.size w0 w' ∧ Kept w w' (fun k_ => P0_0_ k_ ∨ P0_1_ k_) := by
 have hu53 := Tryz.underlying53
 have HO0_0 := Am (show Kd.R k39 39 w w0.heap.size (fun k_ => ((P0_0_ k_ ∨ P0_1_ k_) ∨ w.heap.size ≤ k_) ∧ some k_ ≠ (u9001_ : Value).ownBlock) u9000_ l0_0 from Kd.R_mono ho0_0 (fun k_ hk => ⟨(.inl (.inl hk)), fun e_ => hp0_0_0_1 k_ hk (ho0_1.1 k_ e_.symm)⟩))
 have HO0_1 := Am (show Kd.R k39 39 w w0.heap.size (fun k_ => ((P0_0_ k_ ∨ P0_1_ k_) ∨ w.heap.size ≤ k_) ∧ some k_ ≠ (u9000_ : Value).ownBlock) u9001_ l0_1 from Kd.R_mono ho0_1 (fun k_ hk => ⟨(.inl (.inr hk)), fun e_ => hp0_1_0_0 k_ hk (ho0_0.1 k_ e_.symm)⟩))
 have HK := Am (Kept.refl w (fun k_ => P0_0_ k_ ∨ P0_1_ k_))
 have HW0 := Am hB.size
 have HB := Am hB
 clear hB
 have H : ((laws_markHoldS.f k l0_0 a1).bind fun bt188 => ((laws_markHoldS.f k l0_1 bt188.1).bind fun bt190 => (some (bt190.1, bt188.2, bt190.2)))) = some (r1, r2, r3) := h
 clear h
 replace H := Option.bind_eq_some_iff.mp H
 obtain ⟨⟨t12, t13⟩, A30, H⟩ := H
 try dsimp only at H
 have A3 := Am A30
 clear A30
 replace H := Option.bind_eq_some_iff.mp H
 obtain ⟨⟨t14, t15⟩, A40, H⟩ := H
 try dsimp only at H
 have A4 := Am A40
 clear A40
 simp only [Option.some.injEq, Prod.mk.injEq] at H
 obtain ⟨rfl, rfl, rfl⟩ := H
 obtain ⟨Ao5, co5, eo5⟩ := Kd.R_slice HO0_0.out
 subst eo5
 obtain ⟨Ao6, co6, eo6⟩ := Kd.R_slice HO0_1.out
 subst eo6
 go_enter Tryz.func26, Tryz.ntmps26
 go_wp2_with (first | ((with_reducible refine gate_dst (N := 2) rfl ?_); refine Xbox 2 #[.slice Ao5 l0_0.length co5, .slice Ao6 l0_1.length co6] 53 ?_; intro gb16 hg w7 hbox hb; replace HO0_0 := Am (Kd.R_below (Xq HO0_0) hb); replace HO0_1 := Am (Kd.R_below (Xq HO0_1) hb); have B16 := Am (hbox); have GW16 := Am ((by rw [hg]; exact (by first | exact HK.out.1 | exact (show Kept w _ (fun k_ => P0_0_ k_ ∨ P0_1_ k_) from by repeat first | (with_reducible first | exact HK.out | apply Kept.drewN | apply Kept.drew) | exact HK.out).1) : w.heap.size ≤ gb16)); replace HK := Am (Kept.below (S := (fun k_ => P0_0_ k_ ∨ P0_1_ k_)) (by repeat first | (with_reducible first | exact HK.out | apply Kept.drewN | apply Kept.drew) | exact HK.out) hb); have GE16 := Am ((by rw [hg]; exact (below_size Xi) : w0.heap.size ≤ gb16)); replace HB := Xhb hb; clear hb hbox hg; obtain ⟨Z8_0, Z8_1⟩ := Xc2 B16) | ((with_reducible refine gate_callee (f := 18) rfl ?_); refine Xgo 8 Tryz.func18 #[.slice Ao5 l0_0.length co5, .int .i64 a1] ?_; (with_reducible refine (laws_markHoldS.calls k (fun k_ => some k_ = (.slice Ao5 l0_0.length co5 : Value).ownBlock) (.slice Ao5 l0_0.length co5) l0_0 a1 t12 t13 w0 _ ?s1 ?s2 A3.out).mono ?_); (case s1 => exact Xi); (case s2 => exact Kd.R_tight rfl HO0_0.out); rintro e w9 ⟨rfl, hy0, hb, hkp⟩; refine ⟨_, rfl, ?_⟩; replace HO0_1 := Am (Kd.R_mono (ok' := fun k_ => ((P0_0_ k_ ∨ P0_1_ k_) ∨ w.heap.size ≤ k_) ∧ some k_ ≠ (.slice Ao5 l0_0.length co5 : Value).ownBlock) (Kd.R_keptB (HO0_1.out) hkp (fun k_ hk_ hs_ => (hk_.2) hs_)) (fun k_ hk_ => ⟨hk_.1.1, hk_.1.2⟩)); replace B16 := Am (blk_kept B16.out hkp (fun hs_ => (fun e_ => (Kd.R_ne HO0_0.out B16.out (by decide)) e_) hs_)); replace HK := Am (Kept.then_ (S := (fun k_ => P0_0_ k_ ∨ P0_1_ k_)) (by repeat first | (with_reducible first | exact HK.out | apply Kept.drewN | apply Kept.drew | refine Kept.setCell ?_ (.inr GW16.out) _) | exact HK.out) hkp (fun k_ hs_ => (fun e_ => (HO0_0.out.1 k_ e_.symm).1) hs_)); replace HO0_0 := Am (Kd.R_reok rfl hy0 (fun k_ e_ => HO0_0.out.1 k_ e_)); replace HB := Am (hb); (try clear hb); (try clear hkp); (try clear hy0); obtain ⟨Z10_0, Z10_1⟩ := Xc2 B16) | ((with_reducible refine gate_callee (f := 18) rfl ?_); refine Xgo 12 Tryz.func18 #[.slice Ao6 l0_1.length co6, .int .i64 t12] ?_; (with_reducible refine (laws_markHoldS.calls k (fun k_ => some k_ = (.slice Ao6 l0_1.length co6 : Value).ownBlock) (.slice Ao6 l0_1.length co6) l0_1 t12 t14 t15 w0 _ ?s1 ?s2 A4.out).mono ?_); (case s1 => exact Xi); (case s2 => exact Kd.R_tight rfl HO0_1.out); rintro e w11 ⟨rfl, hy0, hb, hkp⟩; refine ⟨_, rfl, ?_⟩; replace HO0_0 := Am (Kd.R_mono (ok' := fun k_ => ((P0_0_ k_ ∨ P0_1_ k_) ∨ w.heap.size ≤ k_) ∧ some k_ ≠ (.slice Ao6 l0_1.length co6 : Value).ownBlock) (Kd.R_keptB (HO0_0.out) hkp (fun k_ hk_ hs_ => (hk_.2) hs_)) (fun k_ hk_ => ⟨hk_.1.1, hk_.1.2⟩)); replace B16 := Am (blk_kept B16.out hkp (fun hs_ => (fun e_ => (Kd.R_ne HO0_1.out B16.out (by decide)) e_) hs_)); replace HK := Am (Kept.then_ (S := (fun k_ => P0_0_ k_ ∨ P0_1_ k_)) (by repeat first | (with_reducible first | exact HK.out | apply Kept.drewN | apply Kept.drew | refine Kept.setCell ?_ (.inr GW16.out) _) | exact HK.out) hkp (fun k_ hs_ => (fun e_ => (HO0_1.out.1 k_ e_.symm).1) hs_)); replace HO0_1 := Am (Kd.R_reok rfl hy0 (fun k_ e_ => HO0_1.out.1 k_ e_)); replace HB := Am (hb); (try clear hb); (try clear hkp); (try clear hy0)))
 go_ret
 exact ⟨Xe, by (with_reducible repeat (first | apply Kd.R_alloc | apply Kd.R_drewN | apply Kd.R_drew)); exact Kd.R_mono HO0_0.out (fun _ hk => hk.1), by (with_reducible repeat (first | apply Kd.R_alloc | apply Kd.R_drewN | apply Kd.R_drew)); exact Kd.R_mono HO0_1.out (fun _ hk => hk.1), Xi, by repeat first | (with_reducible first | exact HK.out | apply Kept.drewN | apply Kept.drew | refine Kept.setCell ?_ (.inr GW16.out) _) | exact HK.out⟩
def spec_l01In.f (a0 : Int) (a1 : Int) (a2 : Int) : Option (Bool) := if a0 ≥ a1 then (some (decide (a0 ≤ a2))) else (some false)
theorem spec_l01In.calls (a0 : Int) (a1 : Int) (a2 : Int) (r : Bool) (w : World) (h : spec_l01In.f a0 a1 a2 = some r) :
  Calls Tryz.prog 88 #[.int .i64 a0, .int .i64 a1, .int .i64 a2] w fun e w' => e = .returned (.bool r) ∧ Drawn0 w w' := by
 have H : (if a0 ≥ a1 then (some (decide (a0 ≤ a2))) else (some false)) = some r := h
 clear h
 obtain ⟨c4, H⟩ | ⟨c4, H⟩ := Xiu H
 ·have c4b0 : decide (a1 ≤ a0) = true := decide_eq_true c4
  clear c4
  obtain rfl := Xsi H
  go_enter Tryz.func88, Tryz.ntmps88
  go_wp2
  go_ret
  exact ⟨Xr, Xdr⟩
 have c4b0 : decide (a1 ≤ a0) = false := decide_eq_false c4
 clear c4
 obtain rfl := Xsi H
 go_enter Tryz.func88, Tryz.ntmps88
 go_wp2
 go_ret
 exact ⟨Xr, Xdr⟩
def spec_l02At.l0 : Nat → Int → Int → Int → Int → List (S113) → Option (Int)
 | 0, _, _, _, _, _ => none
 | k + 1, x1, x5, x193000, x193001, x193002 => if x5 < (x193002.length : Int) then (if 0 ≤ x5 then (if ((rd_T113 x193002 x5).f0) = x1 then (some x5) else (spec_l02At.l0 k x1 (wrap64 (x5 + 1)) x193000 x193001 x193002)) else (none)) else (some (-1))
def spec_l02At.f (k : Nat) (a0_0 : Int) (a0_1 : Int) (l0_2 : List (S113)) (a1 : Int) : Option (Int) := spec_l02At.l0 k a1 0 a0_0 a0_1 l0_2
theorem spec_l02At.calls (k : Nat) (a0_0 : Int) (a0_1 : Int) (A0_2 : Option Addr) (c0_2 : Nat) (l0_2 : List (S113)) (a1 : Int) (r : Int) (w : World) (hr0_2 : Kd.C k113 w A0_2 l0_2.length l0_2) (hc0_2 : l0_2.length ≤ c0_2) (h : spec_l02At.f k a0_0 a0_1 l0_2 a1 = some r) :
  Calls Tryz.prog 89 #[.agg #[.int .i64 a0_0, .int .i64 a0_1, .slice A0_2 l0_2.length c0_2], .int .i64 a1] w fun e w' => e = .returned (.int .i64 r) ∧ Below w.heap.size w w' := by
 have hu35 := Tryz.underlying35
 have HR0_2 := Am hr0_2
 have HC0_2 := Am hc0_2
 clear hr0_2 hc0_2
 have HB := Am (Below.refl w.heap.size w)
 have H : (spec_l02At.l0 k a1 0 a0_0 a0_1 l0_2) = some r := h
 clear h
 have H' := Am H
 clear H
 go_enter Tryz.func89, Tryz.ntmps89
 go_wp2_with (first | ((with_reducible refine gate_dst (N := 2) rfl ?_); refine Xbx 2 #[.int .i64 a0_0, .int .i64 a0_1, .slice A0_2 l0_2.length c0_2] 35 ?_; intro gb10 hg w3 B10 GE10 hb; replace HB := Xhb hb; clear hb hg))
 go_loopg [5] k (fun kq v5 w' => ∃ (x5_1 : Int), v5 = .int .i64 x5_1 ∧ Aside0 (spec_l02At.l0 kq a1 x5_1 a0_0 a0_1 l0_2 = some r) ∧ Aside0 (kq ≤ k) ∧ Aside0 (w'.heap[gb10]? = some (.cells #[.int .i64 a0_0, .int .i64 a0_1, (.slice A0_2 l0_2.length c0_2)] 35 (0, 0))) ∧ Aside0 (Below w.heap.size w w'))
 case atStart => exact ⟨(0), Xr, H', Xkr, B10, ⟨Xi⟩⟩
 clear H'
 obtain ⟨x5_1, rfl, HA, HK1, B10, HB⟩ := hrel
 cases gk with | zero => cases HA.out | succ k1 => ?_
 have H := HA.out
 clear HA
 simp only [spec_l02At.l0] at H
 obtain ⟨c4b0, H⟩ | ⟨c4b0, H⟩ := Xit H
 ·obtain ⟨c5b0, H⟩ := Xid H
  obtain ⟨c6, H⟩ | ⟨c6, H⟩ := Xiu H
  ·have c6b0 : (((rd_T113 l0_2 x5_1).f0) == a1) = true := beq_iff_eq.mpr c6
   have c6b1 : (((rd_T113 l0_2 x5_1).f0) != a1) = false := bne_eq_false_iff_eq.mpr c6
   clear c6
   obtain rfl := Xsi H
   obtain ⟨Z7_0, Z7_1, Z7_2⟩ := Xc3 B10
   obtain ⟨ad11, A193_4, c193_4, e11, p11, q11, hx11_0, hx11_1, hx11_2, hx11_3, hx11_4, HC11_4, HR11_4⟩ := at_B113 HR0_2 x5_1 Xa Xa HB
   cases e11
   go_wp2
   go_ret
   exact ⟨Xe, Xi⟩
  have c6b0 : (((rd_T113 l0_2 x5_1).f0) == a1) = false := beq_eq_false_iff_ne.mpr c6
  have c6b1 : (((rd_T113 l0_2 x5_1).f0) != a1) = true := bne_iff_ne.mpr c6
  have H' := Am H
  clear H
  obtain ⟨Z8_0, Z8_1, Z8_2⟩ := Xc3 B10
  obtain ⟨ad11, A193_4, c193_4, e11, p11, q11, hx11_0, hx11_1, hx11_2, hx11_3, hx11_4, HC11_4, HR11_4⟩ := at_B113 HR0_2 x5_1 Xa Xa HB
  cases e11
  go_wp2
  go_roundg k1
  case measure => have := HK1.out; omega
  case rel => exact ⟨(wrap64 (x5_1 + 1)), Xr, H', Xk1, B10, ⟨Xi⟩⟩
 obtain rfl := Xsi H
 obtain ⟨Z9_0, Z9_1, Z9_2⟩ := Xc3 B10
 go_wp2
 go_ret
 exact ⟨Xe, Xi⟩
mutual
def spec_l02Deep.l0 : Nat → Int → Int → List Int → Int → Int → Int → List (S113) → Option (Int)
 | 0, _, _, _, _, _, _, _ => none
 | k + 1, x2, x7, x8, x9, x195000, x195001, x195002 => if x9 < (x8.length : Int) then (if 0 ≤ x9 then ((spec_l02Deep.f k x195000 x195001 x195002 (rd x8 x9) (wrap64 (x2 - 1))).bind fun t10 => (spec_l02Deep.l0 k x2 (mx x7 t10) x8 (wrap64 (x9 + 1)) x195000 x195001 x195002)) else (none)) else (some (wrap64 (x7 + 1)))
def spec_l02Deep.f : Nat → Int → Int → List (S113) → Int → Int → Option (Int)
 | 0, _, _, _, _, _ => none
 | k + 1, a0_0, a0_1, l0_2, a1, a2 => if a2 = 0 then (some 1) else ((spec_l02At.f k a0_0 a0_1 l0_2 a1).bind fun t10 => (if 0 ≤ t10 then (if t10 < (l0_2.length : Int) then (spec_l02Deep.l0 k a2 0 ((rd_T113 l0_2 t10).f4) 0 a0_0 a0_1 l0_2) else (none)) else (none)))
end
def spec_l02Deep.T4 : Bool × List (List Nat × List Nat) := (true, [([], []), ([0], [0]), ([], []), ([], []), ([2, 3], [2, 3]), ([1, 4], [1, 4]), ([5], [5]), ([6], [6]), ([7, 4, 0, 1, 2, 3, 4, 5, 6, 7], [7])])
def spec_l02Deep.B4 : List Nat := [0, 1, 0, 0, 12, 31, 63, 127, 255]
theorem spec_l02Deep.tab4 : rtab .any (opsOf Tryz.f158 4) = spec_l02Deep.T4 := by kernel_rfl
theorem spec_l02Deep.bits4 : waitsOk spec_l02Deep.T4.2 spec_l02Deep.B4 = true := by kernel_rfl
def spec_l02Deep.T8 : Bool × List (List Nat × List Nat) := (true, [([], []), ([], []), ([], []), ([], []), ([2, 3], [2, 3]), ([4], [4]), ([], []), ([6], [6]), ([1, 5, 7], [1, 5, 7]), ([0, 8], [0, 8]), ([9, 8, 0, 1, 2, 3, 4, 5, 6, 7, 8, 9], [0, 9])])
def spec_l02Deep.B8 : List Nat := [0, 0, 0, 0, 12, 28, 0, 64, 254, 511, 1023]
theorem spec_l02Deep.tab8 : rtab .any (opsOf Tryz.f158 8) = spec_l02Deep.T8 := by kernel_rfl
theorem spec_l02Deep.bits8 : waitsOk spec_l02Deep.T8.2 spec_l02Deep.B8 = true := by kernel_rfl
theorem spec_l02Deep.calls (k : Nat) : ∀ (a0_0 : Int) (a0_1 : Int) (A0_2 : Option Addr) (c0_2 : Nat) (l0_2 : List (S113)) (a1 : Int) (a2 : Int) (r : Int) (w : World) (hr0_2 : Kd.C k113 w A0_2 l0_2.length l0_2) (hc0_2 : l0_2.length ≤ c0_2) (h : spec_l02Deep.f k a0_0 a0_1 l0_2 a1 a2 = some r),
  Calls Tryz.prog 158 #[.agg #[.int .i64 a0_0, .int .i64 a0_1, .slice A0_2 l0_2.length c0_2], .int .i64 a1, .int .i64 a2] w fun e w' => e = .returned (.int .i64 r) ∧ Below w.heap.size w w' := by
 induction k using Nat.strongRecOn with
 | _ k ih =>
 intro a0_0 a0_1 A0_2 c0_2 l0_2 a1 a2 r w hr0_2 hc0_2 h
 cases k with
 | zero => exact absurd h (by simp [spec_l02Deep.f])
 | succ k =>
 simp only [spec_l02Deep.f] at h
 have hu35 := Tryz.underlying35
 have HR0_2 := Am hr0_2
 have HC0_2 := Am hc0_2
 clear hr0_2 hc0_2
 have HB := Am (Below.refl w.heap.size w)
 have H : (if a2 = 0 then (some 1) else ((spec_l02At.f k a0_0 a0_1 l0_2 a1).bind fun t18 => (if 0 ≤ t18 then (if t18 < (l0_2.length : Int) then (spec_l02Deep.l0 k a2 0 ((rd_T113 l0_2 t18).f4) 0 a0_0 a0_1 l0_2) else (none)) else (none)))) = some r := h
 clear h
 have HC4 := Am H
 clear H
 go_enter Tryz.func158, Tryz.ntmps158
 go_upto_if 11 with ((with_reducible refine gate_dst (N := 3) rfl ?_); refine Xbx 3 #[.int .i64 a0_0, .int .i64 a0_1, .slice A0_2 l0_2.length c0_2] 35 ?_; intro gb19 hg w5 B19 GE19 hb; replace HB := Xhb hb; clear hb hg)
 have H := HC4.out
 clear HC4
 obtain ⟨c6, H⟩ | ⟨c6, H⟩ := Xiu H
 ·have c6b0 : (a2 == 0) = true := beq_iff_eq.mpr c6
  have c6b1 : (a2 != 0) = false := bne_eq_false_iff_eq.mpr c6
  clear c6
  (first | rw [c6b0] | (simp only [i64_w, i32_w]; rw [c6b0]) | skip)
  obtain rfl := Xsi H
  go_wp2
  go_ret
  exact ⟨Xe, Xi⟩
 have c6b0 : (a2 == 0) = false := beq_eq_false_iff_ne.mpr c6
 have c6b1 : (a2 != 0) = true := bne_iff_ne.mpr c6
 (first | rw [c6b0] | (simp only [i64_w, i32_w]; rw [c6b0]) | skip)
 obtain ⟨t18, A7, H⟩ := Xbi H
 try dsimp only at H
 obtain ⟨c8, H⟩ | ⟨c8, H⟩ := Xiu H
 ·have c8b0 : decide (0 ≤ t18) = true := decide_eq_true c8
  clear c8
  obtain ⟨c9b0, H⟩ := Xid H
  have H' := Am H
  clear H
  try go_wp2_with (fail)
  replace B19 := Xbd B19
  replace HB := Xhd HB
  have p20 : 0 ≤ (t18 : Int) := Xo
  have q20 : t18 < (l0_2.length : Int) := Xo
  obtain ⟨ad20, A196_4, c196_4, e20, hx20_0, hx20_1, hx20_2, hx20_3, hx20_4, hl196_4, hi196_4⟩ := at_T113 HR0_2.out t18 p20 q20
  have hw196_4 := hx20_4
  have hw196_3 := hx20_3
  have hw196_2 := hx20_2
  have hw196_1 := hx20_1
  have hw196_0 := hx20_0
  cases e20
  replace hx20_0 := Xm HB hx20_0
  replace hx20_1 := Xm HB hx20_1
  replace hx20_2 := Xm HB hx20_2
  replace hx20_3 := Xm HB hx20_3
  replace hx20_4 := Xm HB hx20_4
  have HR20_4 := Am hi196_4
  have HC20_4 := Am hl196_4
  clear hi196_4 hl196_4
  replace p20 := eq_true p20
  replace q20 := eq_true q20
  refine Sx 9 (fun w' => w'.cell? ⟨gb19, 0, none⟩ = some (.int .i64 a0_0) ∧ w'.cell? ⟨gb19, 1, none⟩ = some (.int .i64 a0_1) ∧ w'.cell? ⟨gb19, 2, none⟩ = some (.slice (some ad20) l0_2.length c0_2) ∧ w'.cell? (ad20.add ((t18).toNat * 5)) = some (.int .i64 ((rd_T113 l0_2 t18).f0)) ∧ w'.cell? ⟨(ad20.add ((t18).toNat * 5)).block, (ad20.add ((t18).toNat * 5)).off + 1, none⟩ = some (.int .i64 ((rd_T113 l0_2 t18).f1)) ∧ w'.cell? ⟨(ad20.add ((t18).toNat * 5)).block, (ad20.add ((t18).toNat * 5)).off + 2, none⟩ = some (.int .i64 ((rd_T113 l0_2 t18).f2)) ∧ w'.cell? ⟨(ad20.add ((t18).toNat * 5)).block, (ad20.add ((t18).toNat * 5)).off + 3, none⟩ = some (.string ((rd_T113 l0_2 t18).f3)) ∧ w'.cell? ⟨(ad20.add ((t18).toNat * 5)).block, (ad20.add ((t18).toNat * 5)).off + 4, none⟩ = some (.slice A196_4 ((rd_T113 l0_2 t18).f4).length c196_4)) ⟨Xk B19 0, Xk B19 1, Xk B19 2, Xn hw196_0, Xn hw196_1, Xn hw196_2, Xn hw196_3, Xn hw196_4⟩ (fun hHeld => ?_); refine with_tabW spec_l02Deep.tab4 spec_l02Deep.bits4 (fun HT_ HW_ => ?_)
  generalize w5.drew = w10 at B19 HB HR20_4 hx20_0 hx20_1 hx20_2 hx20_3 hx20_4 hHeld ⊢
  refine Pu 0 12 9 1 ?_
  refine Pu 3 15 9 9 ?_
  refine Ta 1 13 9 11 ?_
  refine Ta 2 14 9 15 ?_
  refine On 4 16 9 31 (fun K hK => ?_)
  refine Gs Tryz.func89 #[.agg #[.int .i64 a0_0, .int .i64 a0_1, .slice (some ad20) l0_2.length c0_2], .int .i64 a1] ?_
  with_reducible refine (spec_l02At.calls k a0_0 a0_1 _ _ l0_2 a1 t18 _ ?s1 ?s2 A7.out).mono ?_
  (case s1 => exact Xc HR0_2)
  (case s2 => exact HC0_2.out)
  rintro e w11 ⟨rfl, hb⟩
  refine ⟨_, rfl, ?_⟩
  replace B19 := Xbb B19 hb
  replace HB := Xhb hb
  try clear hb
  try clear hb2
  try clear hk
  try clear hi
  refine hK.out _ _ ⟨Xk B19 0, Xk B19 1, Xk B19 2, Xn hw196_0, Xn hw196_1, Xn hw196_2, Xn hw196_3, Xn hw196_4⟩ (fun hHeld => ?_)
  clear hK K
  refine Xno ?_
  refine Pu 5 17 9 63 ?_
  refine Pu 6 18 9 127 ?_
  refine Ta 7 19 9 255 ?_
  refine Pu 8 8 9 511 ?_
  refine Dn ?_
  try go_wp2_with (fail)
  go_loopg [7, 9] k (fun kq v7 v9 w' => ∃ (x7_1 : Int) (x9_1 : Int), v7 = .int .i64 x7_1 ∧ v9 = .int .i64 x9_1 ∧ Aside0 (spec_l02Deep.l0 kq a2 x7_1 ((rd_T113 l0_2 t18).f4) x9_1 a0_0 a0_1 l0_2 = some r) ∧ Aside0 (kq ≤ k) ∧ Aside0 (w'.heap[gb19]? = some (.cells #[.int .i64 a0_0, .int .i64 a0_1, (.slice (some ad20) l0_2.length c0_2)] 35 (0, 0))) ∧ Aside0 (Below w.heap.size w w'))
  case atStart => exact ⟨(0), (0), Xr, Xr, H', Xkr, B19, ⟨Xi⟩⟩
  clear H'
  (try clear c6); (try clear c6b0); (try clear c6b1); (try clear c8); (try clear c8b0); (try clear c9); (try clear c9b0); (try clear hx20_0); (try clear hx20_1); (try clear hx20_2); (try clear hx20_3); (try clear hx20_4); (try clear p20); (try clear q20)
  obtain ⟨x7_1, x9_1, rfl, rfl, HA, HK1, B19, HB⟩ := hrel
  cases gk with | zero => cases HA.out | succ k1 => ?_
  have H := HA.out
  clear HA
  simp only [spec_l02Deep.l0] at H
  obtain ⟨c12b0, H⟩ | ⟨c12b0, H⟩ := Xit H
  ·obtain ⟨c13b0, H⟩ := Xid H
   obtain ⟨t21, A14, H⟩ := Xbi H
   try dsimp only at H
   obtain ⟨ji15, hji15⟩ : ∃ j_ : Int, (mx x7_1 t21) = j_ := ⟨_, rfl⟩
   replace H : (spec_l02Deep.l0 k1 a2 ji15 ((rd_T113 l0_2 t18).f4) (wrap64 (x9_1 + 1)) a0_0 a0_1 l0_2) = some r := by first | (rw [hji15] at H; exact H) | (simp only [hji15] at H ⊢; exact H)
   (try rw [hji15] at A14)
   have hji15_ : (if x7_1 < t21 then t21 else x7_1) = ji15 := hji15
   have H' := Am H
   clear H
   try go_wp2_with (fail)
   replace B19 := Xbd B19
   replace HB := Xhd HB
   have p22 : 0 ≤ (x9_1 : Int) := Xo
   have q22 : x9_1 < (((rd_T113 l0_2 t18).f4).length : Int) := Xo
   obtain ⟨ad22, e22, hx22_0⟩ := Kd.at_int HR20_4.out x9_1 p22 q22
   have hw197_0 := hx22_0
   cases e22
   replace hx22_0 := Xm HB hx22_0
   replace p22 := eq_true p22
   replace q22 := eq_true q22
   refine Sx 11 (fun w' => w'.cell? ⟨gb19, 0, none⟩ = some (.int .i64 a0_0) ∧ w'.cell? ⟨gb19, 1, none⟩ = some (.int .i64 a0_1) ∧ w'.cell? ⟨gb19, 2, none⟩ = some (.slice (some ad20) l0_2.length c0_2) ∧ w'.cell? (ad22.add (x9_1).toNat) = some (.int .i64 (rd ((rd_T113 l0_2 t18).f4) x9_1))) ⟨Xk B19 0, Xk B19 1, Xk B19 2, Xn hw197_0⟩ (fun hHeld => ?_); refine with_tabW spec_l02Deep.tab8 spec_l02Deep.bits8 (fun HT_ HW_ => ?_)
   generalize wr.drew = w16 at B19 HB hx22_0 hHeld ⊢
   refine Pu 0 26 11 1 ?_
   refine Pu 2 28 11 5 ?_
   refine Pu 3 29 11 13 ?_
   refine Pu 4 30 11 29 ?_
   refine Pu 6 32 11 93 ?_
   refine Pu 7 33 11 221 ?_
   refine Ta 1 27 11 223 ?_
   refine Ta 5 31 11 255 ?_
   refine On 8 34 11 511 (fun K hK => ?_)
   refine Gs Tryz.func158 #[.agg #[.int .i64 a0_0, .int .i64 a0_1, .slice (some ad20) l0_2.length c0_2], .int .i64 (rd ((rd_T113 l0_2 t18).f4) x9_1), .int .i64 (wrap64 (a2 - 1))] ?_
   with_reducible refine (ih k1 (by have := HK1.out; omega) a0_0 a0_1 _ _ l0_2 (rd ((rd_T113 l0_2 t18).f4) x9_1) (wrap64 (a2 - 1)) t21 _ ?s1 ?s2 A14.out).mono ?_
   (case s1 => exact Xc HR0_2)
   (case s2 => exact HC0_2.out)
   rintro e w17 ⟨rfl, hb⟩
   refine ⟨_, rfl, ?_⟩
   replace B19 := Xbb B19 hb
   replace HB := Xhb hb
   try clear hb
   try clear hb2
   try clear hk
   try clear hi
   refine hK.out _ _ ⟨Xk B19 0, Xk B19 1, Xk B19 2, Xn hw197_0⟩ (fun hHeld => ?_)
   clear hK K
   refine Xno ?_
   refine Pu 9 35 11 1023 ?_
   refine Pu 10 7 11 2047 ?_
   refine Dn ?_
   try go_wp2_with (fail)
   go_roundg k1
   case measure => have := HK1.out; omega
   case rel => exact ⟨(ji15), (wrap64 (x9_1 + 1)), (by first | rfl | (simp; done) | (simp only [← hji15] <;> (first | rfl | simp)) | (simp [*]; done)), Xr, H', Xk1, B19, ⟨Xi⟩⟩
  obtain rfl := Xsi H
  go_wp2
  go_ret
  exact ⟨Xe, Xi⟩
 exact absurd H (by simp)
def spec_l02Has.l0 : Nat → List Int → Int → Int → Option (Bool)
 | 0, _, _, _ => none
 | k + 1, x0, x1, x5 => if x5 < (x0.length : Int) then (if 0 ≤ x5 then (if (rd x0 x5) = x1 then (some true) else (spec_l02Has.l0 k x0 x1 (wrap64 (x5 + 1)))) else (none)) else (some false)
def spec_l02Has.f (k : Nat) (l0 : List Int) (a1 : Int) : Option (Bool) := spec_l02Has.l0 k l0 a1 0
theorem spec_l02Has.calls (k : Nat) (A0 : Option Addr) (c0 : Nat) (l0 : List Int) (a1 : Int) (r : Bool) (w : World) (hr0 : Kd.C (Kd.int .i64) w A0 l0.length l0) (hc0 : l0.length ≤ c0) (h : spec_l02Has.f k l0 a1 = some r) :
  Calls Tryz.prog 104 #[.slice A0 l0.length c0, .int .i64 a1] w fun e w' => e = .returned (.bool r) ∧ Drawn0 w w' := by
 have HR0 := Am hr0
 have HC0 := Am hc0
 clear hr0 hc0
 have H : (spec_l02Has.l0 k l0 a1 0) = some r := h
 clear h
 have H' := Am H
 clear H
 go_enter Tryz.func104, Tryz.ntmps104
 go_wp2
 go_loopg [5] k (fun kq v5 w' => ∃ (x5_1 : Int), v5 = .int .i64 x5_1 ∧ Aside0 (spec_l02Has.l0 kq l0 a1 x5_1 = some r) ∧ Aside0 (kq ≤ k) ∧ Drawn0 w w')
 case atStart => exact ⟨(0), Xr, H', Xkr, by repeat (first | exact Drawn0.refl _ | apply Drawn0.step)⟩
 clear H'
 obtain ⟨x5_1, rfl, HA, HK1, ⟨m1, rfl⟩⟩ := hrel
 cases gk with | zero => cases HA.out | succ k1 => ?_
 have H := HA.out
 clear HA
 simp only [spec_l02Has.l0] at H
 obtain ⟨c3b0, H⟩ | ⟨c3b0, H⟩ := Xit H
 ·obtain ⟨c4b0, H⟩ := Xid H
  obtain ⟨c5, H⟩ | ⟨c5, H⟩ := Xiu H
  ·have c5b0 : ((rd l0 x5_1) == a1) = true := beq_iff_eq.mpr c5
   have c5b1 : ((rd l0 x5_1) != a1) = false := bne_eq_false_iff_eq.mpr c5
   clear c5
   obtain rfl := Xsi H
   have p10 : 0 ≤ (x5_1 : Int) := Xo
   have q10 : x5_1 < (l0.length : Int) := Xo
   obtain ⟨ad10, e10, hx10_0⟩ := Kd.at_int HR0.out x5_1 p10 q10
   cases e10
   replace p10 := eq_true p10
   replace q10 := eq_true q10
   go_wp2
   go_ret
   exact ⟨Xr, Xdr⟩
  have c5b0 : ((rd l0 x5_1) == a1) = false := beq_eq_false_iff_ne.mpr c5
  have c5b1 : ((rd l0 x5_1) != a1) = true := bne_iff_ne.mpr c5
  have H' := Am H
  clear H
  have p10 : 0 ≤ (x5_1 : Int) := Xo
  have q10 : x5_1 < (l0.length : Int) := Xo
  obtain ⟨ad10, e10, hx10_0⟩ := Kd.at_int HR0.out x5_1 p10 q10
  cases e10
  replace p10 := eq_true p10
  replace q10 := eq_true q10
  go_wp2
  go_roundg k1
  case measure => have := HK1.out; omega
  case rel => exact ⟨(wrap64 (x5_1 + 1)), Xr, H', Xk1, by repeat (first | exact Drawn0.refl _ | apply Drawn0.step)⟩
 obtain rfl := Xsi H
 go_wp2
 go_ret
 exact ⟨Xr, Xdr⟩
def spec_l02Kind.f (a0 : Int) : Option (Bool) := (spec_l01In.f a0 1 8).bind fun t10 => (some t10)
theorem spec_l02Kind.calls (a0 : Int) (r : Bool) (w : World) (h : spec_l02Kind.f a0 = some r) :
  Calls Tryz.prog 197 #[.int .i64 a0] w fun e w' => e = .returned (.bool r) ∧ Drawn0 w w' := by
 have H : ((spec_l01In.f a0 1 8).bind fun t10 => (some t10)) = some r := h
 clear h
 obtain ⟨t10, A2, H⟩ := Xbi H
 try dsimp only at H
 obtain rfl := Xsi H
 go_enter Tryz.func197, Tryz.ntmps197
 go_wp2_with (first | ((with_reducible refine gate_callee (f := 88) rfl ?_); refine Xgo 4 Tryz.func88 #[.int .i64 a0, .int .i64 1, .int .i64 8] ?_; (with_reducible refine (spec_l01In.calls a0 1 8 t10 _ A2.out).mono ?_); rintro e w' ⟨rfl, ⟨nd, rfl⟩⟩; refine ⟨_, rfl, ?_⟩))
 go_ret
 exact ⟨Xr, Xdr⟩
def spec_l02Node.f (a0_0 : Int) (a0_1 : Int) (a0_2 : Int) (a0_3 : ByteArray) (l0_4 : List Int) (a1 : Int) : Option (Bool) := (spec_l01In.f a0_0 1 (wrap64 (a1 - 1))).bind fun t10 => (if t10 = true then ((spec_l02Kind.f a0_1).bind fun t11 => (if t11 = true then ((spec_l01In.f a0_2 0 99).bind fun t12 => (if t12 = true then (if (a0_3.size : Int) ≤ 20 then (some (decide ((l0_4.length : Int) ≤ 12))) else (some false)) else (some false))) else (some false))) else (some false))
theorem spec_l02Node.calls (a0_0 : Int) (a0_1 : Int) (a0_2 : Int) (a0_3 : ByteArray) (A0_4 : Option Addr) (c0_4 : Nat) (l0_4 : List Int) (a1 : Int) (r : Bool) (w : World) (hr0_4 : Kd.C (Kd.int .i64) w A0_4 l0_4.length l0_4) (hc0_4 : l0_4.length ≤ c0_4) (h : spec_l02Node.f a0_0 a0_1 a0_2 a0_3 l0_4 a1 = some r) :
  Calls Tryz.prog 188 #[.agg #[.int .i64 a0_0, .int .i64 a0_1, .int .i64 a0_2, .string a0_3, .slice A0_4 l0_4.length c0_4], .int .i64 a1] w fun e w' => e = .returned (.bool r) ∧ Below w.heap.size w w' := by
 have hu113 := Tryz.underlying113
 have HR0_4 := Am hr0_4
 have HC0_4 := Am hc0_4
 clear hr0_4 hc0_4
 have HB := Am (Below.refl w.heap.size w)
 have H : ((spec_l01In.f a0_0 1 (wrap64 (a1 - 1))).bind fun t17 => (if t17 = true then ((spec_l02Kind.f a0_1).bind fun t18 => (if t18 = true then ((spec_l01In.f a0_2 0 99).bind fun t19 => (if t19 = true then (if (a0_3.size : Int) ≤ 20 then (some (decide ((l0_4.length : Int) ≤ 12))) else (some false)) else (some false))) else (some false))) else (some false))) = some r := h
 clear h
 have HC3 := Am H
 clear H
 go_enter Tryz.func188, Tryz.ntmps188
 go_upto_region 1 with ((with_reducible refine gate_dst (N := 2) rfl ?_); (try (refine gate_guard (by rfl) ?_; dsimp only)); refine Xbx 2 #[.int .i64 a0_0, .int .i64 a0_1, .int .i64 a0_2, .string a0_3, .slice A0_4 l0_4.length c0_4] 113 ?_; intro gb20 hg w4 B20 GE20 hb; replace HB := Xhb hb; clear hb hg)
 have H := HC3.out
 clear HC3
 obtain ⟨t17, A5, H⟩ := Xbi H
 try dsimp only at H
 by_cases c6 : t17 = true
 ·subst c6
  try rw [if_pos rfl] at H
  obtain ⟨t18, A7, H⟩ := Xbi H
  try dsimp only at H
  by_cases c8 : t18 = true
  ·subst c8
   try rw [if_pos rfl] at H
   obtain ⟨t19, A9, H⟩ := Xbi H
   try dsimp only at H
   by_cases c10 : t19 = true
   ·subst c10
    try rw [if_pos rfl] at H
    obtain ⟨c11, H⟩ | ⟨c11, H⟩ := Xiu H
    ·have c11b0 : decide ((a0_3.size : Int) ≤ 20) = true := decide_eq_true c11
     have c11b1 : decide (a0_3.size ≤ 20) = true := decide_eq_true (by omega)
     clear c11
     obtain rfl := Xsi H
     obtain ⟨Z12_0, Z12_1, Z12_2, Z12_3, Z12_4⟩ := Xc5 B20
     go_wp2_with (first | ((with_reducible refine gate_callee (f := 88) rfl ?_); refine Xgo 9 Tryz.func88 #[.int .i64 a0_0, .int .i64 1, .int .i64 (wrap64 (a1 - 1))] ?_; (with_reducible refine (spec_l01In.calls a0_0 1 (wrap64 (a1 - 1)) true _ A5.out).mono ?_); rintro e w' ⟨rfl, ⟨nd, rfl⟩⟩; refine ⟨_, rfl, ?_⟩) | (go_at_call 197; (with_reducible refine (spec_l02Kind.calls a0_1 true _ A7.out).mono ?_); rintro e w' ⟨rfl, ⟨nd, rfl⟩⟩) | (go_at_call 88; (with_reducible refine (spec_l01In.calls a0_2 0 99 true _ A9.out).mono ?_); rintro e w' ⟨rfl, ⟨nd, rfl⟩⟩))
     go_ret
     exact ⟨Xe, Xi⟩
    have c11b0 : decide ((a0_3.size : Int) ≤ 20) = false := decide_eq_false c11
    have c11b1 : decide (a0_3.size ≤ 20) = false := decide_eq_false (by omega)
    clear c11
    obtain rfl := Xsi H
    obtain ⟨Z13_0, Z13_1, Z13_2, Z13_3, Z13_4⟩ := Xc5 B20
    go_wp2_with (first | ((with_reducible refine gate_callee (f := 88) rfl ?_); refine Xgo 9 Tryz.func88 #[.int .i64 a0_0, .int .i64 1, .int .i64 (wrap64 (a1 - 1))] ?_; (with_reducible refine (spec_l01In.calls a0_0 1 (wrap64 (a1 - 1)) true _ A5.out).mono ?_); rintro e w' ⟨rfl, ⟨nd, rfl⟩⟩; refine ⟨_, rfl, ?_⟩) | (go_at_call 197; (with_reducible refine (spec_l02Kind.calls a0_1 true _ A7.out).mono ?_); rintro e w' ⟨rfl, ⟨nd, rfl⟩⟩) | (go_at_call 88; (with_reducible refine (spec_l01In.calls a0_2 0 99 true _ A9.out).mono ?_); rintro e w' ⟨rfl, ⟨nd, rfl⟩⟩))
    go_ret
    exact ⟨Xe, Xi⟩
   replace c10 := Xbf c10
   subst c10
   try rw [if_neg Xft] at H
   obtain rfl := Xsi H
   obtain ⟨Z14_0, Z14_1, Z14_2, Z14_3, Z14_4⟩ := Xc5 B20
   go_wp2_with (first | ((with_reducible refine gate_callee (f := 88) rfl ?_); refine Xgo 9 Tryz.func88 #[.int .i64 a0_0, .int .i64 1, .int .i64 (wrap64 (a1 - 1))] ?_; (with_reducible refine (spec_l01In.calls a0_0 1 (wrap64 (a1 - 1)) true _ A5.out).mono ?_); rintro e w' ⟨rfl, ⟨nd, rfl⟩⟩; refine ⟨_, rfl, ?_⟩) | (go_at_call 197; (with_reducible refine (spec_l02Kind.calls a0_1 true _ A7.out).mono ?_); rintro e w' ⟨rfl, ⟨nd, rfl⟩⟩) | (go_at_call 88; (with_reducible refine (spec_l01In.calls a0_2 0 99 false _ A9.out).mono ?_); rintro e w' ⟨rfl, ⟨nd, rfl⟩⟩))
   go_ret
   exact ⟨Xe, Xi⟩
  replace c8 := Xbf c8
  subst c8
  try rw [if_neg Xft] at H
  obtain rfl := Xsi H
  obtain ⟨Z15_0, Z15_1, Z15_2, Z15_3, Z15_4⟩ := Xc5 B20
  go_wp2_with (first | ((with_reducible refine gate_callee (f := 88) rfl ?_); refine Xgo 9 Tryz.func88 #[.int .i64 a0_0, .int .i64 1, .int .i64 (wrap64 (a1 - 1))] ?_; (with_reducible refine (spec_l01In.calls a0_0 1 (wrap64 (a1 - 1)) true _ A5.out).mono ?_); rintro e w' ⟨rfl, ⟨nd, rfl⟩⟩; refine ⟨_, rfl, ?_⟩) | (go_at_call 197; (with_reducible refine (spec_l02Kind.calls a0_1 false _ A7.out).mono ?_); rintro e w' ⟨rfl, ⟨nd, rfl⟩⟩))
  go_ret
  exact ⟨Xe, Xi⟩
 replace c6 := Xbf c6
 subst c6
 try rw [if_neg Xft] at H
 obtain rfl := Xsi H
 obtain ⟨Z16_0, Z16_1, Z16_2, Z16_3, Z16_4⟩ := Xc5 B20
 go_wp2_with (first | ((with_reducible refine gate_callee (f := 88) rfl ?_); refine Xgo 9 Tryz.func88 #[.int .i64 a0_0, .int .i64 1, .int .i64 (wrap64 (a1 - 1))] ?_; (with_reducible refine (spec_l01In.calls a0_0 1 (wrap64 (a1 - 1)) false _ A5.out).mono ?_); rintro e w' ⟨rfl, ⟨nd, rfl⟩⟩; refine ⟨_, rfl, ?_⟩))
 go_ret
 exact ⟨Xe, Xi⟩
mutual
def spec_l02Nodes.l0 : Nat → List Int → Int → Int → Int → List (S113) → Option (Bool)
 | 0, _, _, _, _, _ => none
 | k + 1, x3, x4, x206000, x206001, x206002 => if x4 < (x206002.length : Int) then (if 0 ≤ x4 then ((spec_l02Node.f ((rd_T113 x206002 x4).f0) ((rd_T113 x206002 x4).f1) ((rd_T113 x206002 x4).f2) ((rd_T113 x206002 x4).f3) ((rd_T113 x206002 x4).f4) x206001).bind fun t10 => (if t10 = true then (if x4 > 0 then (if 0 ≤ (wrap64 (x4 - 1)) then (if (wrap64 (x4 - 1)) < (x206002.length : Int) then (spec_l02Nodes.j1 k x3 x4 (decide (((rd_T113 x206002 x4).f0) ≤ ((rd_T113 x206002 (wrap64 (x4 - 1))).f0))) x206000 x206001 x206002 ((rd_T113 x206002 x4).f0) ((rd_T113 x206002 x4).f1) ((rd_T113 x206002 x4).f2) ((rd_T113 x206002 x4).f3) ((rd_T113 x206002 x4).f4)) else (none)) else (none)) else (spec_l02Nodes.j1 k x3 x4 false x206000 x206001 x206002 ((rd_T113 x206002 x4).f0) ((rd_T113 x206002 x4).f1) ((rd_T113 x206002 x4).f2) ((rd_T113 x206002 x4).f3) ((rd_T113 x206002 x4).f4))) else (spec_l02Nodes.j1 k x3 x4 true x206000 x206001 x206002 ((rd_T113 x206002 x4).f0) ((rd_T113 x206002 x4).f1) ((rd_T113 x206002 x4).f2) ((rd_T113 x206002 x4).f3) ((rd_T113 x206002 x4).f4)))) else (none)) else (if (x3.length : Int) = (wrap64 ((x206002.length : Int) - 1)) then ((spec_l02At.f k x206000 x206001 x206002 x206000).bind fun t11 => (some (decide (t11 ≥ 0)))) else (some false))
def spec_l02Nodes.j1 : Nat → List Int → Int → Bool → Int → Int → List (S113) → Int → Int → Int → ByteArray → List Int → Option (Bool)
 | 0, _, _, _, _, _, _, _, _, _, _, _ => none
 | k + 1, x3, x4, x40, x206000, x206001, x206002, x212000, x212001, x212002, x212003, x212004 => if x40 = true then (some false) else (spec_l02Nodes.l1 k x3 x4 0 x206000 x206001 x206002 x212000 x212001 x212002 x212003 x212004)
def spec_l02Nodes.l1 : Nat → List Int → Int → Int → Int → Int → List (S113) → Int → Int → Int → ByteArray → List Int → Option (Bool)
 | 0, _, _, _, _, _, _, _, _, _, _, _ => none
 | k + 1, x3, x4, x6, x206000, x206001, x206002, x212000, x212001, x212002, x212003, x212004 => if x6 < (x212004.length : Int) then (if 0 ≤ x6 then (if (rd x212004 x6) = x206000 then (some false) else ((spec_l02Has.f k x3 (rd x212004 x6)).bind fun t10 => (if t10 = true then (some false) else ((spec_l02At.f k x206000 x206001 x206002 (rd x212004 x6)).bind fun t11 => (if t11 < 0 then (some false) else (if x3.length < 17592186044416 then (spec_l02Nodes.l1 k (x3 ++ [rd x212004 x6]) x4 (wrap64 (x6 + 1)) x206000 x206001 x206002 x212000 x212001 x212002 x212003 x212004) else (none))))))) else (none)) else (spec_l02Nodes.l0 k x3 (wrap64 (x4 + 1)) x206000 x206001 x206002)
end
def spec_l02Nodes.f (k : Nat) (a0_0 : Int) (a0_1 : Int) (l0_2 : List (S113)) : Option (Bool) := spec_l02Nodes.l0 k (([] : List Int)) 0 a0_0 a0_1 l0_2
def spec_l02Nodes.T6 : Bool × List (List Nat × List Nat) := (true, [([], []), ([], []), ([1], [1]), ([0, 2], [0, 2]), ([3], [3]), ([4, 3], [4]), ([5], [5]), ([6, 5], [5, 6]), ([7, 5, 5], [5, 7]), ([8], [8]), ([9, 8], [8, 9]), ([8], [8]), ([11, 8], [8, 11]), ([8], [8]), ([13, 8], [8, 13]), ([12, 14, 8], [8, 12, 14]), ([15, 8], [8, 15]), ([16, 8], [8, 16]), ([10, 17, 8], [8, 10, 17]), ([8, 18, 5], [5, 8, 18]), ([5, 19], [5, 19])])
def spec_l02Nodes.B6 : List Nat := [0, 0, 2, 7, 15, 31, 63, 127, 255, 511, 1023, 511, 2559, 511, 8703, 31231, 63999, 129535, 262143, 524287, 1048575]
theorem spec_l02Nodes.tab6 : rtab .any (opsOf Tryz.f169 6) = spec_l02Nodes.T6 := by kernel_rfl
theorem spec_l02Nodes.bits6 : waitsOk spec_l02Nodes.T6.2 spec_l02Nodes.B6 = true := by kernel_rfl
def spec_l02Nodes.T11 : Bool × List (List Nat × List Nat) := (true, [([], []), ([0], [0]), ([], []), ([1, 2], [1, 2]), ([3], [3]), ([], []), ([5], [5]), ([4, 6], [4, 6]), ([7], [7]), ([8], [8]), ([8], [8]), ([10, 8], [8, 10]), ([8], [8]), ([11, 12, 8], [8, 11, 12]), ([13, 8], [8, 13]), ([9, 14, 8, 8], [8, 9, 14]), ([8, 15], [8, 15]), ([16, 15], [16]), ([17], [17]), ([17], [17]), ([19, 17], [17, 19]), ([17], [17]), ([20, 21, 17], [17, 20, 21]), ([22, 17], [17, 22]), ([18, 23, 17, 17], [17, 18, 23]), ([24, 17], [17, 24]), ([17, 25], [17, 25])])
def spec_l02Nodes.B11 : List Nat := [0, 1, 0, 7, 15, 0, 32, 127, 255, 511, 511, 1535, 511, 7679, 15871, 32767, 65535, 131071, 262143, 262143, 786431, 262143, 3932159, 8126463, 16777215, 33554431, 67108863]
theorem spec_l02Nodes.tab11 : rtab .any (opsOf Tryz.f169 11) = spec_l02Nodes.T11 := by kernel_rfl
theorem spec_l02Nodes.bits11 : waitsOk spec_l02Nodes.T11.2 spec_l02Nodes.B11 = true := by kernel_rfl
theorem spec_l02Nodes.calls (k : Nat) (a0_0 : Int) (a0_1 : Int) (A0_2 : Option Addr) (c0_2 : Nat) (l0_2 : List (S113)) (r : Bool) (w : World) (hr0_2 : Kd.C k113 w A0_2 l0_2.length l0_2) (hc0_2 : l0_2.length ≤ c0_2) (h : spec_l02Nodes.f k a0_0 a0_1 l0_2 = some r) :
  Calls Tryz.prog 169 #[.agg #[.int .i64 a0_0, .int .i64 a0_1, .slice A0_2 l0_2.length c0_2]] w fun e w' => e = .returned (.bool r) ∧ Below w.heap.size w w' := by
 have hu35 := Tryz.underlying35
 have hu113 := Tryz.underlying113
 have HR0_2 := Am hr0_2
 have HC0_2 := Am hc0_2
 clear hr0_2 hc0_2
 have HB := Am (Below.refl w.heap.size w)
 have H : (spec_l02Nodes.l0 k (([] : List Int)) 0 a0_0 a0_1 l0_2) = some r := h
 clear h
 obtain ⟨y59, hy59⟩ : ∃ y_ : List Int, y_ = (([] : List Int)) := ⟨_, rfl⟩
 replace H : (spec_l02Nodes.l0 k y59 0 a0_0 a0_1 l0_2) = some r := by first | (rw [hy59]; with_reducible exact H) | (have H2_ := (Option.bind_some _ _).symm.trans H; rw [hy59]; with_reducible exact H2_) | (have H2_ := (Option.bind_some _ _).symm.trans H; with_reducible exact H2_) | with_reducible exact H | (rw [hy59]; exact H) | exact H
 have Ny59 := Am hy59
 clear hy59
 have H' := Am H
 clear H
 go_enter Tryz.func169, Tryz.ntmps169
 go_wp2_with (first | ((with_reducible refine gate_dst (N := 1) rfl ?_); refine Xbx 1 #[.int .i64 a0_0, .int .i64 a0_1, .slice A0_2 l0_2.length c0_2] 35 ?_; intro gb60 hg w2 B60 GE60 hb; replace HB := Xhb hb; clear hb hg) | ((with_reducible refine gate_dst (N := 7) rfl ?_); refine Kd.R_lit (Kd.int .i64) _ 3 ?hg (N := 7) ?hd (xs := ([] : List Int)) (inner := []) (ok := fun _ => True) (okp := fun _ => True) ?hr ?hp (fun _ hk => hk) trivial (Below.refl _ _) (Nat.le_refl _) (by simp) ?_; (case hd => rfl); (case hg => rfl); (case hr => first | (go_simp; done) | (go_simp; rfl)); (case hp => exact (Reps.none _ _)); intro v207 w3 ho4 hb hg_ hnew_; clear hg_ hnew_; (first | rw [← Ny59.out] at ho4 | (simp only [Int.reduceToNat] at ho4; rw [← Ny59.out] at ho4)); have HO61 := Am (Kd.R_lower ho4 (below_size Xi)); replace B60 := Xbb B60 hb; replace HB := Xhb hb; clear hb ho4))
 go_loopg [3, 4] k (fun kq v3 v4 w' => ∃ (x3_1 : List Int) (x4_1 : Int), v4 = .int .i64 x4_1 ∧ Aside0 (spec_l02Nodes.l0 kq x3_1 x4_1 a0_0 a0_1 l0_2 = some r) ∧ Aside0 (kq ≤ k) ∧ Aside0 (Kd.R (Kd.int .i64) 3 w' w.heap.size (fun _ => True) v3 x3_1) ∧ Aside0 (w'.heap[gb60]? = some (.cells #[.int .i64 a0_0, .int .i64 a0_1, (.slice A0_2 l0_2.length c0_2)] 35 (0, 0))) ∧ Aside0 (Below w.heap.size w w'))
 case atStart => exact ⟨(y59), (0), Xr, H', Xkr, (Xp' HO61), (Xp B60), ⟨Xi⟩⟩
 clear H'
 obtain ⟨x3_1, x4_1, rfl, HA, HK1, O_3, B60, HB⟩ := hrel
 cases gk with | zero => cases HA.out | succ k1 => ?_
 have H := HA.out
 clear HA
 simp only [spec_l02Nodes.l0] at H
 obtain ⟨c5b0, H⟩ | ⟨c5b0, H⟩ := Xit H
 ·obtain ⟨c6b0, H⟩ := Xid H
  have HC7 := Am H
  clear H
  obtain ⟨Z8_0, Z8_1, Z8_2⟩ := Xc3 B60
  obtain ⟨F8_0, F8_1, F8_2⟩ := Xf3 B60
  obtain ⟨ad62, A210_4, c210_4, e62, p62, q62, hx62_0, hx62_1, hx62_2, hx62_3, hx62_4, HC62_4, HR62_4⟩ := at_B113 HR0_2 x4_1 Xa Xa HB
  cases e62
  go_upto_region 6 with (first | ((with_reducible refine gate_dst (N := 5) rfl ?_); refine Xbox 5 #[.int .i64 0, .int .i64 0, .int .i64 0, .string (⟨#[]⟩ : ByteArray), .slice none 0 0] 113 ?_; intro gb63 hg w9 hbox hb; replace O_3 := Am (Kd.R_below (Xq O_3) hb); have B63 := Am (hbox); have GE63 := Xge hg Xi; replace HB := Xhb hb; have NB60_63 := Xnb hg B60; have NB63_60 := Xns NB60_63; replace B60 := Xbb B60 hb; clear hb hbox hg; have hnb10 := NB63_60.out; have hnc10 := NB60_63.out; obtain ⟨Z11_0, Z11_1, Z11_2, Z11_3, Z11_4⟩ := Xc5 B63; obtain ⟨F11_0, F11_1, F11_2, F11_3, F11_4⟩ := Xf5 B63) | ((with_reducible refine gate_store (t := 113) (p := 5) rfl ?_); refine store_event (t := 113) (p := 5) (v := ?vo_w12) (w1 := (((((w9.setCell ⟨gb63, 0, none⟩ (.int .i64 ((rd_T113 l0_2 x4_1).f0))).setCell ⟨gb63, 1, none⟩ (.int .i64 ((rd_T113 l0_2 x4_1).f1))).setCell ⟨gb63, 2, none⟩ (.int .i64 ((rd_T113 l0_2 x4_1).f2))).setCell ⟨gb63, 3, none⟩ (.string ((rd_T113 l0_2 x4_1).f3))).setCell ⟨gb63, 4, none⟩ (.slice A210_4 ((rd_T113 l0_2 x4_1).f4).length c210_4))) ?hg ?ho ?hn ?hr ?_; (case ho => rfl); (case hg => rfl); (case hn => rfl); (case hr => first | (go_simp; done) | (go_simp; rfl)); intro w12 hw; have n0_ : Aside0 (Kd.R (Kd.int .i64) 3 w12 w.heap.size (fun _ => True) u3 x3_1) := ⟨(by rw [hw]; exact (by (with_reducible repeat (first | apply Kd.R_alloc | apply Kd.R_drewN | apply Kd.R_drew)); exact Kd.R_mono (Kd.R_far (p := ⟨gb63, 4, none⟩) (Kd.R_far (p := ⟨gb63, 3, none⟩) (Kd.R_far (p := ⟨gb63, 2, none⟩) (Kd.R_far (p := ⟨gb63, 1, none⟩) (Kd.R_far (p := ⟨gb63, 0, none⟩) (Kd.R_types O_3.out B63.out (by decide)) (fun _ hk => hk.2) (.int .i64 ((rd_T113 l0_2 x4_1).f0))) (fun _ hk => hk.2) (.int .i64 ((rd_T113 l0_2 x4_1).f1))) (fun _ hk => hk.2) (.int .i64 ((rd_T113 l0_2 x4_1).f2))) (fun _ hk => hk.2) (.string ((rd_T113 l0_2 x4_1).f3))) (fun _ hk => hk.2) (.slice A210_4 ((rd_T113 l0_2 x4_1).f4).length c210_4)) (fun _ hk => trivial)))⟩; have n1_ : Aside0 (w12.heap[gb60]? = some (.cells #[.int .i64 a0_0, .int .i64 a0_1, .slice (some ad62) l0_2.length c0_2] 35 (0, 0))) := ⟨(by rw [hw]; exact (by refine Xu ?_; refine blk_far ?_ NB60_63.out _; refine Xu ?_; refine blk_far ?_ NB60_63.out _; refine Xu ?_; refine blk_far ?_ NB60_63.out _; refine Xu ?_; refine blk_far ?_ NB60_63.out _; refine Xu ?_; refine blk_far ?_ NB60_63.out _; refine Xu ?_; exact B60.out))⟩; have n2_ : Aside0 (w12.heap[gb63]? = some (.cells #[.int .i64 ((rd_T113 l0_2 x4_1).f0), .int .i64 ((rd_T113 l0_2 x4_1).f1), .int .i64 ((rd_T113 l0_2 x4_1).f2), .string ((rd_T113 l0_2 x4_1).f3), .slice A210_4 ((rd_T113 l0_2 x4_1).f4).length c210_4] 113 (0, 0))) := ⟨(by rw [hw]; exact (by refine Xu ?_; refine blk_put (cs := #[.int .i64 ((rd_T113 l0_2 x4_1).f0), .int .i64 ((rd_T113 l0_2 x4_1).f1), .int .i64 ((rd_T113 l0_2 x4_1).f2), .string ((rd_T113 l0_2 x4_1).f3), .slice none 0 0]) ?_ 4 _ rfl; refine Xu ?_; refine blk_put (cs := #[.int .i64 ((rd_T113 l0_2 x4_1).f0), .int .i64 ((rd_T113 l0_2 x4_1).f1), .int .i64 ((rd_T113 l0_2 x4_1).f2), .string (⟨#[]⟩ : ByteArray), .slice none 0 0]) ?_ 3 _ rfl; refine Xu ?_; refine blk_put (cs := #[.int .i64 ((rd_T113 l0_2 x4_1).f0), .int .i64 ((rd_T113 l0_2 x4_1).f1), .int .i64 0, .string (⟨#[]⟩ : ByteArray), .slice none 0 0]) ?_ 2 _ rfl; refine Xu ?_; refine blk_put (cs := #[.int .i64 ((rd_T113 l0_2 x4_1).f0), .int .i64 0, .int .i64 0, .string (⟨#[]⟩ : ByteArray), .slice none 0 0]) ?_ 1 _ rfl; refine Xu ?_; refine blk_put (cs := #[.int .i64 0, .int .i64 0, .int .i64 0, .string (⟨#[]⟩ : ByteArray), .slice none 0 0]) ?_ 0 _ rfl; refine Xu ?_; exact B63.out))⟩; have n3_ : Aside0 (Below w.heap.size w w12) := ⟨(by rw [hw]; exact Xi)⟩; clear hw; clear O_3; clear B60; clear B63; clear HB; have O_3 := n0_; have B60 := n1_; have B63 := n2_; have HB := n3_; clear n0_ n1_ n2_ n3_))
  (try simp only [XW.q0, XW.q1, XW.q2])
  go_cut [40] (fun v40 wc => ∃ (kq : Nat) (x40_6 : Bool), v40 = .bool x40_6 ∧ Aside0 (spec_l02Nodes.j1 kq x3_1 x4_1 x40_6 a0_0 a0_1 l0_2 ((rd_T113 l0_2 x4_1).f0) ((rd_T113 l0_2 x4_1).f1) ((rd_T113 l0_2 x4_1).f2) ((rd_T113 l0_2 x4_1).f3) ((rd_T113 l0_2 x4_1).f4) = some r) ∧ Aside0 (kq ≤ k1) ∧ Aside0 (Kd.R (Kd.int .i64) 3 wc w.heap.size (fun _ => True) u3 x3_1) ∧ Aside0 (wc.heap[gb60]? = some (.cells #[.int .i64 a0_0, .int .i64 a0_1, (.slice (some ad62) l0_2.length c0_2)] 35 (0, 0))) ∧ Aside0 (wc.heap[gb63]? = some (.cells #[.int .i64 ((rd_T113 l0_2 x4_1).f0), .int .i64 ((rd_T113 l0_2 x4_1).f1), .int .i64 ((rd_T113 l0_2 x4_1).f2), .string ((rd_T113 l0_2 x4_1).f3), (.slice A210_4 ((rd_T113 l0_2 x4_1).f4).length c210_4)] 113 (0, 0))) ∧ Aside0 (Below w.heap.size w wc))
  case first =>
   have H := HC7.out
   clear HC7
   obtain ⟨t65, A13, H⟩ := Xbi H
   try dsimp only at H
   by_cases c14 : t65 = true
   ·subst c14
    try rw [if_pos rfl] at H
    obtain ⟨c15, H⟩ | ⟨c15, H⟩ := Xiu H
    ·have c15b0 : decide (0 < x4_1) = true := decide_eq_true c15
     clear c15
     (first | rw [c15b0] | (simp only [i64_w, i32_w]; rw [c15b0]) | skip)
     obtain ⟨ji16, hji16⟩ : ∃ j_ : Int, (wrap64 (x4_1 - 1)) = j_ := ⟨_, rfl⟩
     replace H : (if 0 ≤ (ji16) then (if (ji16) < (l0_2.length : Int) then (spec_l02Nodes.j1 k1 x3_1 x4_1 (decide (((rd_T113 l0_2 x4_1).f0) ≤ ((rd_T113 l0_2 (ji16)).f0))) a0_0 a0_1 l0_2 ((rd_T113 l0_2 x4_1).f0) ((rd_T113 l0_2 x4_1).f1) ((rd_T113 l0_2 x4_1).f2) ((rd_T113 l0_2 x4_1).f3) ((rd_T113 l0_2 x4_1).f4)) else (none)) else (none)) = some r := by first | (rw [hji16] at H; exact H) | (simp only [hji16] at H ⊢; exact H)
     (try rw [hji16] at A13)
     have hji16w : (IntKind.i64.wrap (x4_1 - 1)) = ji16 := (i64_w _).trans hji16
     obtain ⟨c17b0, H⟩ := Xid H
     obtain ⟨c18b0, H⟩ := Xid H
     have H' := Am H
     clear H
     try go_wp2_with (fail)
     replace O_3 := Am (Kd.R_drew O_3.out)
     replace B60 := Xbd B60
     replace B63 := Xbd B63
     replace HB := Xhd HB
     have p66 : 0 ≤ ((ji16) : Int) := Xo
     have q66 : (ji16) < (l0_2.length : Int) := Xo
     obtain ⟨ad66, A213_4, c213_4, e66, hx66_0, hx66_1, hx66_2, hx66_3, hx66_4, hl213_4, hi213_4⟩ := at_T113 HR0_2.out (ji16) p66 q66
     have hw213_4 := hx66_4
     have hw213_3 := hx66_3
     have hw213_2 := hx66_2
     have hw213_1 := hx66_1
     have hw213_0 := hx66_0
     obtain rfl : ad62 = ad66 := (by injection e66)
     replace hx66_0 := Xm HB hx66_0
     replace hx66_1 := Xm HB hx66_1
     replace hx66_2 := Xm HB hx66_2
     replace hx66_3 := Xm HB hx66_3
     replace hx66_4 := Xm HB hx66_4
     have HR66_4 := Am hi213_4
     have HC66_4 := Am hl213_4
     clear hi213_4 hl213_4
     replace p66 := eq_true p66
     replace q66 := eq_true q66
     refine Sx 21 (fun w' => w'.cell? ⟨gb63, 0, none⟩ = some (.int .i64 ((rd_T113 l0_2 x4_1).f0)) ∧ w'.cell? ⟨gb63, 1, none⟩ = some (.int .i64 ((rd_T113 l0_2 x4_1).f1)) ∧ w'.cell? ⟨gb63, 2, none⟩ = some (.int .i64 ((rd_T113 l0_2 x4_1).f2)) ∧ w'.cell? ⟨gb63, 3, none⟩ = some (.string ((rd_T113 l0_2 x4_1).f3)) ∧ w'.cell? ⟨gb63, 4, none⟩ = some (.slice A210_4 ((rd_T113 l0_2 x4_1).f4).length c210_4) ∧ w'.cell? ⟨gb60, 0, none⟩ = some (.int .i64 a0_0) ∧ w'.cell? ⟨gb60, 1, none⟩ = some (.int .i64 a0_1) ∧ w'.cell? ⟨gb60, 2, none⟩ = some (.slice (some ad62) l0_2.length c0_2) ∧ w'.cell? (ad62.add (((ji16)).toNat * 5)) = some (.int .i64 ((rd_T113 l0_2 (ji16)).f0)) ∧ w'.cell? ⟨(ad62.add (((ji16)).toNat * 5)).block, (ad62.add (((ji16)).toNat * 5)).off + 1, none⟩ = some (.int .i64 ((rd_T113 l0_2 (ji16)).f1)) ∧ w'.cell? ⟨(ad62.add (((ji16)).toNat * 5)).block, (ad62.add (((ji16)).toNat * 5)).off + 2, none⟩ = some (.int .i64 ((rd_T113 l0_2 (ji16)).f2)) ∧ w'.cell? ⟨(ad62.add (((ji16)).toNat * 5)).block, (ad62.add (((ji16)).toNat * 5)).off + 3, none⟩ = some (.string ((rd_T113 l0_2 (ji16)).f3)) ∧ w'.cell? ⟨(ad62.add (((ji16)).toNat * 5)).block, (ad62.add (((ji16)).toNat * 5)).off + 4, none⟩ = some (.slice A213_4 ((rd_T113 l0_2 (ji16)).f4).length c213_4)) ⟨Xk B63 0, Xk B63 1, Xk B63 2, Xk B63 3, Xk B63 4, Xk B60 0, Xk B60 1, Xk B60 2, Xn hw213_0, Xn hw213_1, Xn hw213_2, Xn hw213_3, Xn hw213_4⟩ (fun hHeld => ?_); refine with_tabW spec_l02Nodes.tab6 spec_l02Nodes.bits6 (fun HT_ HW_ => ?_)
     generalize w12.drew = w19 at O_3 B60 B63 HB HR66_4 hx66_0 hx66_1 hx66_2 hx66_3 hx66_4 hHeld ⊢
     refine Pu 1 21 21 2 ?_
     refine Ta 0 20 21 3 ?_
     refine Ta 2 22 21 7 ?_
     refine On 3 23 21 15 (fun K hK => ?_)
     refine Gs Tryz.func188 #[.agg #[.int .i64 ((rd_T113 l0_2 x4_1).f0), .int .i64 ((rd_T113 l0_2 x4_1).f1), .int .i64 ((rd_T113 l0_2 x4_1).f2), .string ((rd_T113 l0_2 x4_1).f3), .slice A210_4 ((rd_T113 l0_2 x4_1).f4).length c210_4], .int .i64 a0_1] ?_
     with_reducible refine (spec_l02Node.calls ((rd_T113 l0_2 x4_1).f0) ((rd_T113 l0_2 x4_1).f1) ((rd_T113 l0_2 x4_1).f2) ((rd_T113 l0_2 x4_1).f3) _ _ ((rd_T113 l0_2 x4_1).f4) a0_1 true _ ?s1 ?s2 A13.out).mono ?_
     (case s1 => exact Xc HR62_4)
     (case s2 => exact HC62_4.out)
     rintro e w20 ⟨rfl, hb⟩
     refine ⟨_, rfl, ?_⟩
     replace O_3 := Am (Kd.R_below (Xq O_3) hb)
     replace B60 := Xbb B60 hb
     replace B63 := Xbb B63 hb
     replace HB := Xhb hb
     try clear hb
     try clear hb2
     try clear hk
     try clear hi
     refine hK.out _ _ ⟨Xk B63 0, Xk B63 1, Xk B63 2, Xk B63 3, Xk B63 4, Xk B60 0, Xk B60 1, Xk B60 2, Xn hw213_0, Xn hw213_1, Xn hw213_2, Xn hw213_3, Xn hw213_4⟩ (fun hHeld => ?_)
     clear hK K
     refine Xno ?_
     refine Pu 4 24 21 31 ?_
     refine Pu 5 25 21 63 ?_
     refine Pu 6 26 21 127 ?_
     refine Pu 7 27 21 255 ?_
     refine Pu 8 28 21 511 ?_
     refine Pu 9 29 21 1023 ?_
     refine Pu 11 31 21 3071 ?_
     refine Pu 13 33 21 11263 ?_
     refine Pu 14 34 21 27647 ?_
     refine Ta 10 30 21 28671 ?_
     refine Ta 12 32 21 32767 ?_
     refine Pu 15 35 21 65535 ?_
     refine Pu 16 36 21 131071 ?_
     refine Ta 17 37 21 262143 ?_
     refine Pu 18 38 21 524287 ?_
     refine Pu 19 39 21 1048575 ?_
     refine Pu 20 40 21 2097151 ?_
     refine Dn ?_
     try go_wp2_with (fail)
     go_meet
     case rel => exact ⟨_, (decide (((rd_T113 l0_2 x4_1).f0) ≤ ((rd_T113 l0_2 (ji16)).f0))), (by first | rfl | (simp; done) | (simp only [← hji16] <;> (first | rfl | simp)) | (simp [*]; done)), H', ⟨by have := HK1.out; first | omega | exact Nat.le_refl _⟩, (Xp' O_3), (Xp B60), (Xp B63), ⟨Xi⟩⟩
    have c15b0 : decide (0 < x4_1) = false := decide_eq_false c15
    clear c15
    (first | rw [c15b0] | (simp only [i64_w, i32_w]; rw [c15b0]) | skip)
    have H' := Am H
    clear H
    try go_wp2_with (fail)
    replace O_3 := Am (Kd.R_drew O_3.out)
    replace B60 := Xbd B60
    replace B63 := Xbd B63
    replace HB := Xhd HB
    refine Sx 21 (fun w' => w'.cell? ⟨gb63, 0, none⟩ = some (.int .i64 ((rd_T113 l0_2 x4_1).f0)) ∧ w'.cell? ⟨gb63, 1, none⟩ = some (.int .i64 ((rd_T113 l0_2 x4_1).f1)) ∧ w'.cell? ⟨gb63, 2, none⟩ = some (.int .i64 ((rd_T113 l0_2 x4_1).f2)) ∧ w'.cell? ⟨gb63, 3, none⟩ = some (.string ((rd_T113 l0_2 x4_1).f3)) ∧ w'.cell? ⟨gb63, 4, none⟩ = some (.slice A210_4 ((rd_T113 l0_2 x4_1).f4).length c210_4) ∧ w'.cell? ⟨gb60, 0, none⟩ = some (.int .i64 a0_0) ∧ w'.cell? ⟨gb60, 1, none⟩ = some (.int .i64 a0_1) ∧ w'.cell? ⟨gb60, 2, none⟩ = some (.slice (some ad62) l0_2.length c0_2)) ⟨Xk B63 0, Xk B63 1, Xk B63 2, Xk B63 3, Xk B63 4, Xk B60 0, Xk B60 1, Xk B60 2⟩ (fun hHeld => ?_); refine with_tabW spec_l02Nodes.tab6 spec_l02Nodes.bits6 (fun HT_ HW_ => ?_)
    generalize w12.drew = w21 at O_3 B60 B63 HB hHeld ⊢
    refine Pu 1 21 21 2 ?_
    refine Ta 0 20 21 3 ?_
    refine Ta 2 22 21 7 ?_
    refine On 3 23 21 15 (fun K hK => ?_)
    refine Gs Tryz.func188 #[.agg #[.int .i64 ((rd_T113 l0_2 x4_1).f0), .int .i64 ((rd_T113 l0_2 x4_1).f1), .int .i64 ((rd_T113 l0_2 x4_1).f2), .string ((rd_T113 l0_2 x4_1).f3), .slice A210_4 ((rd_T113 l0_2 x4_1).f4).length c210_4], .int .i64 a0_1] ?_
    with_reducible refine (spec_l02Node.calls ((rd_T113 l0_2 x4_1).f0) ((rd_T113 l0_2 x4_1).f1) ((rd_T113 l0_2 x4_1).f2) ((rd_T113 l0_2 x4_1).f3) _ _ ((rd_T113 l0_2 x4_1).f4) a0_1 true _ ?s1 ?s2 A13.out).mono ?_
    (case s1 => exact Xc HR62_4)
    (case s2 => exact HC62_4.out)
    rintro e w22 ⟨rfl, hb⟩
    refine ⟨_, rfl, ?_⟩
    replace O_3 := Am (Kd.R_below (Xq O_3) hb)
    replace B60 := Xbb B60 hb
    replace B63 := Xbb B63 hb
    replace HB := Xhb hb
    try clear hb
    try clear hb2
    try clear hk
    try clear hi
    refine hK.out _ _ ⟨Xk B63 0, Xk B63 1, Xk B63 2, Xk B63 3, Xk B63 4, Xk B60 0, Xk B60 1, Xk B60 2⟩ (fun hHeld => ?_)
    clear hK K
    refine Xno ?_
    refine Pu 4 24 21 31 ?_
    refine Pu 5 25 21 63 ?_
    refine Pu 6 26 21 127 ?_
    refine Pu 7 27 21 255 ?_
    refine Pu 8 28 21 511 ?_
    refine Pn 9 29 21 1023 ?_
    refine Pn 10 30 21 2047 ?_
    refine Pn 11 31 21 4095 ?_
    refine Pn 12 32 21 8191 ?_
    refine Pn 13 33 21 16383 ?_
    refine Pn 14 34 21 32767 ?_
    refine Pn 15 35 21 65535 ?_
    refine Pn 16 36 21 131071 ?_
    refine Pn 17 37 21 262143 ?_
    refine Pn 18 38 21 524287 ?_
    refine Pu 19 39 21 1048575 ?_
    refine Pu 20 40 21 2097151 ?_
    refine Dn ?_
    try go_wp2_with (fail)
    go_meet
    case rel => exact ⟨_, (false), Xr, H', ⟨by have := HK1.out; first | omega | exact Nat.le_refl _⟩, (Xp' O_3), (Xp B60), (Xp B63), ⟨Xi⟩⟩
   replace c14 := Xbf c14
   subst c14
   try rw [if_neg Xft] at H
   have H' := Am H
   clear H
   try go_wp2_with (fail)
   replace O_3 := Am (Kd.R_drew O_3.out)
   replace B60 := Xbd B60
   replace B63 := Xbd B63
   replace HB := Xhd HB
   refine Sx 21 (fun w' => w'.cell? ⟨gb63, 0, none⟩ = some (.int .i64 ((rd_T113 l0_2 x4_1).f0)) ∧ w'.cell? ⟨gb63, 1, none⟩ = some (.int .i64 ((rd_T113 l0_2 x4_1).f1)) ∧ w'.cell? ⟨gb63, 2, none⟩ = some (.int .i64 ((rd_T113 l0_2 x4_1).f2)) ∧ w'.cell? ⟨gb63, 3, none⟩ = some (.string ((rd_T113 l0_2 x4_1).f3)) ∧ w'.cell? ⟨gb63, 4, none⟩ = some (.slice A210_4 ((rd_T113 l0_2 x4_1).f4).length c210_4) ∧ w'.cell? ⟨gb60, 0, none⟩ = some (.int .i64 a0_0) ∧ w'.cell? ⟨gb60, 1, none⟩ = some (.int .i64 a0_1) ∧ w'.cell? ⟨gb60, 2, none⟩ = some (.slice (some ad62) l0_2.length c0_2)) ⟨Xk B63 0, Xk B63 1, Xk B63 2, Xk B63 3, Xk B63 4, Xk B60 0, Xk B60 1, Xk B60 2⟩ (fun hHeld => ?_); refine with_tabW spec_l02Nodes.tab6 spec_l02Nodes.bits6 (fun HT_ HW_ => ?_)
   generalize w12.drew = w23 at O_3 B60 B63 HB hHeld ⊢
   refine Pu 1 21 21 2 ?_
   refine Ta 0 20 21 3 ?_
   refine Ta 2 22 21 7 ?_
   refine On 3 23 21 15 (fun K hK => ?_)
   refine Gs Tryz.func188 #[.agg #[.int .i64 ((rd_T113 l0_2 x4_1).f0), .int .i64 ((rd_T113 l0_2 x4_1).f1), .int .i64 ((rd_T113 l0_2 x4_1).f2), .string ((rd_T113 l0_2 x4_1).f3), .slice A210_4 ((rd_T113 l0_2 x4_1).f4).length c210_4], .int .i64 a0_1] ?_
   with_reducible refine (spec_l02Node.calls ((rd_T113 l0_2 x4_1).f0) ((rd_T113 l0_2 x4_1).f1) ((rd_T113 l0_2 x4_1).f2) ((rd_T113 l0_2 x4_1).f3) _ _ ((rd_T113 l0_2 x4_1).f4) a0_1 false _ ?s1 ?s2 A13.out).mono ?_
   (case s1 => exact Xc HR62_4)
   (case s2 => exact HC62_4.out)
   rintro e w24 ⟨rfl, hb⟩
   refine ⟨_, rfl, ?_⟩
   replace O_3 := Am (Kd.R_below (Xq O_3) hb)
   replace B60 := Xbb B60 hb
   replace B63 := Xbb B63 hb
   replace HB := Xhb hb
   try clear hb
   try clear hb2
   try clear hk
   try clear hi
   refine hK.out _ _ ⟨Xk B63 0, Xk B63 1, Xk B63 2, Xk B63 3, Xk B63 4, Xk B60 0, Xk B60 1, Xk B60 2⟩ (fun hHeld => ?_)
   clear hK K
   refine Xno ?_
   refine Pu 4 24 21 31 ?_
   refine Pu 5 25 21 63 ?_
   refine Pn 6 26 21 127 ?_
   refine Pn 7 27 21 255 ?_
   refine Pn 8 28 21 511 ?_
   refine Pn 9 29 21 1023 ?_
   refine Pn 10 30 21 2047 ?_
   refine Pn 11 31 21 4095 ?_
   refine Pn 12 32 21 8191 ?_
   refine Pn 13 33 21 16383 ?_
   refine Pn 14 34 21 32767 ?_
   refine Pn 15 35 21 65535 ?_
   refine Pn 16 36 21 131071 ?_
   refine Pn 17 37 21 262143 ?_
   refine Pn 18 38 21 524287 ?_
   refine Pn 19 39 21 1048575 ?_
   refine Pu 20 40 21 2097151 ?_
   refine Dn ?_
   try go_wp2_with (fail)
   go_meet
   case rel => exact ⟨_, (true), Xr, H', ⟨by have := HK1.out; first | omega | exact Nat.le_refl _⟩, (Xp' O_3), (Xp B60), (Xp B63), ⟨Xi⟩⟩
  clear HC7
  (try clear c5); (try clear c5b0); (try clear c6); (try clear c6b0); (try clear Z11_0); (try clear Z11_1); (try clear Z11_2); (try clear Z11_3); (try clear Z11_4); (try clear Z8_0); (try clear Z8_1); (try clear Z8_2); (try clear F11_0); (try clear F11_1); (try clear F11_2); (try clear F11_3); (try clear F11_4); (try clear F8_0); (try clear F8_1); (try clear F8_2); (try clear hx62_0); (try clear hx62_1); (try clear hx62_2); (try clear hx62_3); (try clear hx62_4); (try clear p62); (try clear q62)
  obtain ⟨kq, x40_6, rfl, HA, HJ6, O_3, B60, B63, HB⟩ := hcut
  cases kq with | zero => cases HA.out | succ kj6 => ?_
  have H := HA.out
  clear HA
  simp only [spec_l02Nodes.j1] at H
  by_cases c25 : x40_6 = true
  ·subst c25
   try rw [if_pos rfl] at H
   obtain rfl := Xsi H
   go_wp2
   go_ret
   exact ⟨Xe, Xi⟩
  replace c25 := Xbf c25
  subst c25
  try rw [if_neg Xft] at H
  have H' := Am H
  clear H
  go_wp2
  go_loopg [3, 6] kj6 (fun kq v3 v6 w' => ∃ (x3_3 : List Int) (x6_3 : Int), v6 = .int .i64 x6_3 ∧ Aside0 (spec_l02Nodes.l1 kq x3_3 x4_1 x6_3 a0_0 a0_1 l0_2 ((rd_T113 l0_2 x4_1).f0) ((rd_T113 l0_2 x4_1).f1) ((rd_T113 l0_2 x4_1).f2) ((rd_T113 l0_2 x4_1).f3) ((rd_T113 l0_2 x4_1).f4) = some r) ∧ Aside0 (kq ≤ kj6) ∧ Aside0 (Kd.R (Kd.int .i64) 3 w' w.heap.size (fun _ => True) v3 x3_3) ∧ Aside0 (w'.heap[gb60]? = some (.cells #[.int .i64 a0_0, .int .i64 a0_1, (.slice (some ad62) l0_2.length c0_2)] 35 (0, 0))) ∧ Aside0 (w'.heap[gb63]? = some (.cells #[.int .i64 ((rd_T113 l0_2 x4_1).f0), .int .i64 ((rd_T113 l0_2 x4_1).f1), .int .i64 ((rd_T113 l0_2 x4_1).f2), .string ((rd_T113 l0_2 x4_1).f3), (.slice A210_4 ((rd_T113 l0_2 x4_1).f4).length c210_4)] 113 (0, 0))) ∧ Aside0 (Below w.heap.size w w'))
  case atStart => exact ⟨(x3_1), (0), Xr, H', Xkr, (Xp' O_3), (Xp B60), (Xp B63), ⟨Xi⟩⟩
  clear H'
  (try clear c5); (try clear c5b0); (try clear c6); (try clear c6b0); (try clear c25); (try clear Z11_0); (try clear Z11_1); (try clear Z11_2); (try clear Z11_3); (try clear Z11_4); (try clear Z8_0); (try clear Z8_1); (try clear Z8_2); (try clear F11_0); (try clear F11_1); (try clear F11_2); (try clear F11_3); (try clear F11_4); (try clear F8_0); (try clear F8_1); (try clear F8_2); (try clear hx62_0); (try clear hx62_1); (try clear hx62_2); (try clear hx62_3); (try clear hx62_4); (try clear p62); (try clear q62)
  obtain ⟨x3_3, x6_3, rfl, HA, HK3, O_3, B60, B63, HB⟩ := hrel
  cases gk with | zero => cases HA.out | succ k3 => ?_
  have H := HA.out
  clear HA
  simp only [spec_l02Nodes.l1] at H
  obtain ⟨c26b0, H⟩ | ⟨c26b0, H⟩ := Xit H
  ·obtain ⟨c27b0, H⟩ := Xid H
   obtain ⟨c28, H⟩ | ⟨c28, H⟩ := Xiu H
   ·have c28b0 : ((rd ((rd_T113 l0_2 x4_1).f4) x6_3) == a0_0) = true := beq_iff_eq.mpr c28
    have c28b1 : ((rd ((rd_T113 l0_2 x4_1).f4) x6_3) != a0_0) = false := bne_eq_false_iff_eq.mpr c28
    clear c28
    obtain rfl := Xsi H
    have hnb29 := NB63_60.out
    have hnc29 := NB60_63.out
    obtain ⟨Z30_0, Z30_1, Z30_2, Z30_3, Z30_4⟩ := Xc5 B63
    obtain ⟨F30_0, F30_1, F30_2, F30_3, F30_4⟩ := Xf5 B63
    try go_wp2_with (fail)
    replace O_3 := Am (Kd.R_drew O_3.out)
    replace B60 := Xbd B60
    replace B63 := Xbd B63
    replace HB := Xhd HB
    have p67 : 0 ≤ (x6_3 : Int) := Xo
    have q67 : x6_3 < (((rd_T113 l0_2 x4_1).f4).length : Int) := Xo
    obtain ⟨ad67, e67, hx67_0⟩ := Kd.at_int HR62_4.out x6_3 p67 q67
    have hw214_0 := hx67_0
    cases e67
    replace hx67_0 := Xm HB hx67_0
    replace p67 := eq_true p67
    replace q67 := eq_true q67
    refine Sx 27 (fun w' => w'.cell? ⟨gb63, 0, none⟩ = some (.int .i64 ((rd_T113 l0_2 x4_1).f0)) ∧ w'.cell? ⟨gb63, 1, none⟩ = some (.int .i64 ((rd_T113 l0_2 x4_1).f1)) ∧ w'.cell? ⟨gb63, 2, none⟩ = some (.int .i64 ((rd_T113 l0_2 x4_1).f2)) ∧ w'.cell? ⟨gb63, 3, none⟩ = some (.string ((rd_T113 l0_2 x4_1).f3)) ∧ w'.cell? ⟨gb63, 4, none⟩ = some (.slice (some ad67) ((rd_T113 l0_2 x4_1).f4).length c210_4) ∧ w'.cell? ⟨gb60, 0, none⟩ = some (.int .i64 a0_0) ∧ w'.cell? ⟨gb60, 1, none⟩ = some (.int .i64 a0_1) ∧ w'.cell? ⟨gb60, 2, none⟩ = some (.slice (some ad62) l0_2.length c0_2) ∧ w'.cell? (ad67.add (x6_3).toNat) = some (.int .i64 (rd ((rd_T113 l0_2 x4_1).f4) x6_3))) ⟨Xk B63 0, Xk B63 1, Xk B63 2, Xk B63 3, Xk B63 4, Xk B60 0, Xk B60 1, Xk B60 2, Xn hw214_0⟩ (fun hHeld => ?_); refine with_tabW spec_l02Nodes.tab11 spec_l02Nodes.bits11 (fun HT_ HW_ => ?_)
    generalize wr.drew = w31 at O_3 B60 B63 HB hx67_0 hHeld ⊢
    refine Pu 0 48 27 1 ?_
    refine Pu 2 50 27 5 ?_
    refine Pu 5 53 27 37 ?_
    refine Ta 1 49 27 39 ?_
    refine Pu 3 51 27 47 ?_
    refine Ta 4 52 27 63 ?_
    refine Ta 6 54 27 127 ?_
    refine Pu 7 55 27 255 ?_
    refine Pu 8 56 27 511 ?_
    refine Pn 9 57 27 1023 ?_
    refine Pn 10 58 27 2047 ?_
    refine Pn 11 59 27 4095 ?_
    refine Pn 12 60 27 8191 ?_
    refine Pn 13 61 27 16383 ?_
    refine Pn 14 62 27 32767 ?_
    refine Pn 15 63 27 65535 ?_
    refine Pu 16 64 27 131071 ?_
    refine Pu 17 65 27 262143 ?_
    refine Pn 18 66 27 524287 ?_
    refine Pn 19 67 27 1048575 ?_
    refine Pn 20 68 27 2097151 ?_
    refine Pn 21 69 27 4194303 ?_
    refine Pn 22 70 27 8388607 ?_
    refine Pn 23 71 27 16777215 ?_
    refine Pn 24 72 27 33554431 ?_
    refine Pn 25 73 27 67108863 ?_
    refine Pu 26 74 27 134217727 ?_
    refine Dn ?_
    try go_wp2_with (fail)
    go_ret
    exact ⟨Xe, Xi⟩
   have c28b0 : ((rd ((rd_T113 l0_2 x4_1).f4) x6_3) == a0_0) = false := beq_eq_false_iff_ne.mpr c28
   have c28b1 : ((rd ((rd_T113 l0_2 x4_1).f4) x6_3) != a0_0) = true := bne_iff_ne.mpr c28
   obtain ⟨t68, A32, H⟩ := Xbi H
   try dsimp only at H
   by_cases c33 : t68 = true
   ·subst c33
    try rw [if_pos rfl] at H
    obtain rfl := Xsi H
    have hnb34 := NB63_60.out
    have hnc34 := NB60_63.out
    obtain ⟨Z35_0, Z35_1, Z35_2, Z35_3, Z35_4⟩ := Xc5 B63
    obtain ⟨F35_0, F35_1, F35_2, F35_3, F35_4⟩ := Xf5 B63
    try go_wp2_with (fail)
    replace O_3 := Am (Kd.R_drew O_3.out)
    replace B60 := Xbd B60
    replace B63 := Xbd B63
    replace HB := Xhd HB
    have p67 : 0 ≤ (x6_3 : Int) := Xo
    have q67 : x6_3 < (((rd_T113 l0_2 x4_1).f4).length : Int) := Xo
    obtain ⟨ad67, e67, hx67_0⟩ := Kd.at_int HR62_4.out x6_3 p67 q67
    have hw214_0 := hx67_0
    cases e67
    replace hx67_0 := Xm HB hx67_0
    replace p67 := eq_true p67
    replace q67 := eq_true q67
    have p69 : 0 ≤ (x6_3 : Int) := Xo
    have q69 : x6_3 < (((rd_T113 l0_2 x4_1).f4).length : Int) := Xo
    obtain ⟨ad69, e69, hx69_0⟩ := Kd.at_int HR62_4.out x6_3 p69 q69
    have hw215_0 := hx69_0
    obtain rfl : ad67 = ad69 := (by injection e69)
    replace hx69_0 := Xm HB hx69_0
    replace p69 := eq_true p69
    replace q69 := eq_true q69
    obtain ⟨Ao37, co37, eo37⟩ := Kd.R_slice O_3.out
    (first | subst eo37 | (injection eo37 with f1_ f2_ f3_; have f4_ := f1_.symm; have f5_ := f3_.symm; clear f1_ f2_ f3_; subst f4_; subst f5_))
    refine Sx 27 (fun w' => w'.cell? ⟨gb63, 0, none⟩ = some (.int .i64 ((rd_T113 l0_2 x4_1).f0)) ∧ w'.cell? ⟨gb63, 1, none⟩ = some (.int .i64 ((rd_T113 l0_2 x4_1).f1)) ∧ w'.cell? ⟨gb63, 2, none⟩ = some (.int .i64 ((rd_T113 l0_2 x4_1).f2)) ∧ w'.cell? ⟨gb63, 3, none⟩ = some (.string ((rd_T113 l0_2 x4_1).f3)) ∧ w'.cell? ⟨gb63, 4, none⟩ = some (.slice (some ad67) ((rd_T113 l0_2 x4_1).f4).length c210_4) ∧ w'.cell? ⟨gb60, 0, none⟩ = some (.int .i64 a0_0) ∧ w'.cell? ⟨gb60, 1, none⟩ = some (.int .i64 a0_1) ∧ w'.cell? ⟨gb60, 2, none⟩ = some (.slice (some ad62) l0_2.length c0_2) ∧ w'.cell? (ad67.add (x6_3).toNat) = some (.int .i64 (rd ((rd_T113 l0_2 x4_1).f4) x6_3)) ∧ w'.cell? (ad67.add (x6_3).toNat) = some (.int .i64 (rd ((rd_T113 l0_2 x4_1).f4) x6_3))) ⟨Xk B63 0, Xk B63 1, Xk B63 2, Xk B63 3, Xk B63 4, Xk B60 0, Xk B60 1, Xk B60 2, Xn hw214_0, Xn hw215_0⟩ (fun hHeld => ?_); refine with_tabW spec_l02Nodes.tab11 spec_l02Nodes.bits11 (fun HT_ HW_ => ?_)
    generalize wr.drew = w36 at O_3 B60 B63 HB hx67_0 hx69_0 hHeld ⊢
    refine Pu 0 48 27 1 ?_
    refine Pu 2 50 27 5 ?_
    refine Pu 5 53 27 37 ?_
    refine Ta 1 49 27 39 ?_
    refine Pu 3 51 27 47 ?_
    refine Ta 4 52 27 63 ?_
    refine Ta 6 54 27 127 ?_
    refine Pu 7 55 27 255 ?_
    refine Pu 8 56 27 511 ?_
    refine Pu 9 57 27 1023 ?_
    refine Pu 10 58 27 2047 ?_
    refine Pu 12 60 27 6143 ?_
    refine Ta 11 59 27 8191 ?_
    refine Pu 13 61 27 16383 ?_
    refine Ta 14 62 27 32767 ?_
    refine On 15 63 27 65535 (fun K hK => ?_)
    refine Gs Tryz.func104 #[.slice Ao37 x3_3.length co37, .int .i64 (rd ((rd_T113 l0_2 x4_1).f4) x6_3)] ?_
    with_reducible refine (spec_l02Has.calls k3 _ _ x3_3 (rd ((rd_T113 l0_2 x4_1).f4) x6_3) true _ ?s1 ?s2 A32.out).mono ?_
    (case s1 => exact Xcd (Kd.R_reads' O_3.out).2.2)
    (case s2 => exact (Kd.R_reads' O_3.out).2.1)
    rintro e w' ⟨rfl, ⟨nd, rfl⟩⟩
    refine ⟨_, rfl, ?_⟩
    refine hK.out _ _ ⟨Xk B63 0, Xk B63 1, Xk B63 2, Xk B63 3, Xk B63 4, Xk B60 0, Xk B60 1, Xk B60 2, Xn hw214_0, Xn hw215_0⟩ (fun hHeld => ?_)
    clear hK K
    refine Xno ?_
    refine Pu 16 64 27 131071 ?_
    refine Pu 17 65 27 262143 ?_
    refine Pn 18 66 27 524287 ?_
    refine Pn 19 67 27 1048575 ?_
    refine Pn 20 68 27 2097151 ?_
    refine Pn 21 69 27 4194303 ?_
    refine Pn 22 70 27 8388607 ?_
    refine Pn 23 71 27 16777215 ?_
    refine Pn 24 72 27 33554431 ?_
    refine Pn 25 73 27 67108863 ?_
    refine Pu 26 74 27 134217727 ?_
    refine Dn ?_
    try go_wp2_with (fail)
    go_ret
    exact ⟨Xe, Xi⟩
   replace c33 := Xbf c33
   subst c33
   try rw [if_neg Xft] at H
   obtain ⟨t70, A38, H⟩ := Xbi H
   try dsimp only at H
   have HC39 := Am H
   clear H
   have hnb40 := NB63_60.out
   have hnc40 := NB60_63.out
   obtain ⟨Z41_0, Z41_1, Z41_2, Z41_3, Z41_4⟩ := Xc5 B63
   obtain ⟨F41_0, F41_1, F41_2, F41_3, F41_4⟩ := Xf5 B63
   try go_wp2_with (fail)
   replace O_3 := Am (Kd.R_drew O_3.out)
   replace B60 := Xbd B60
   replace B63 := Xbd B63
   replace HB := Xhd HB
   have p67 : 0 ≤ (x6_3 : Int) := Xo
   have q67 : x6_3 < (((rd_T113 l0_2 x4_1).f4).length : Int) := Xo
   obtain ⟨ad67, e67, hx67_0⟩ := Kd.at_int HR62_4.out x6_3 p67 q67
   have hw214_0 := hx67_0
   cases e67
   replace hx67_0 := Xm HB hx67_0
   replace p67 := eq_true p67
   replace q67 := eq_true q67
   have p69 : 0 ≤ (x6_3 : Int) := Xo
   have q69 : x6_3 < (((rd_T113 l0_2 x4_1).f4).length : Int) := Xo
   obtain ⟨ad69, e69, hx69_0⟩ := Kd.at_int HR62_4.out x6_3 p69 q69
   have hw215_0 := hx69_0
   obtain rfl : ad67 = ad69 := (by injection e69)
   replace hx69_0 := Xm HB hx69_0
   replace p69 := eq_true p69
   replace q69 := eq_true q69
   obtain ⟨Ao43, co43, eo43⟩ := Kd.R_slice O_3.out
   (first | subst eo43 | (injection eo43 with f1_ f2_ f3_; have f4_ := f1_.symm; have f5_ := f3_.symm; clear f1_ f2_ f3_; subst f4_; subst f5_))
   have p71 : 0 ≤ (x6_3 : Int) := Xo
   have q71 : x6_3 < (((rd_T113 l0_2 x4_1).f4).length : Int) := Xo
   obtain ⟨ad71, e71, hx71_0⟩ := Kd.at_int HR62_4.out x6_3 p71 q71
   have hw217_0 := hx71_0
   obtain rfl : ad67 = ad71 := (by injection e71)
   replace hx71_0 := Xm HB hx71_0
   replace p71 := eq_true p71
   replace q71 := eq_true q71
   refine Sx 27 (fun w' => w'.cell? ⟨gb63, 0, none⟩ = some (.int .i64 ((rd_T113 l0_2 x4_1).f0)) ∧ w'.cell? ⟨gb63, 1, none⟩ = some (.int .i64 ((rd_T113 l0_2 x4_1).f1)) ∧ w'.cell? ⟨gb63, 2, none⟩ = some (.int .i64 ((rd_T113 l0_2 x4_1).f2)) ∧ w'.cell? ⟨gb63, 3, none⟩ = some (.string ((rd_T113 l0_2 x4_1).f3)) ∧ w'.cell? ⟨gb63, 4, none⟩ = some (.slice (some ad67) ((rd_T113 l0_2 x4_1).f4).length c210_4) ∧ w'.cell? ⟨gb60, 0, none⟩ = some (.int .i64 a0_0) ∧ w'.cell? ⟨gb60, 1, none⟩ = some (.int .i64 a0_1) ∧ w'.cell? ⟨gb60, 2, none⟩ = some (.slice (some ad62) l0_2.length c0_2) ∧ w'.cell? (ad67.add (x6_3).toNat) = some (.int .i64 (rd ((rd_T113 l0_2 x4_1).f4) x6_3)) ∧ w'.cell? (ad67.add (x6_3).toNat) = some (.int .i64 (rd ((rd_T113 l0_2 x4_1).f4) x6_3)) ∧ w'.cell? (ad67.add (x6_3).toNat) = some (.int .i64 (rd ((rd_T113 l0_2 x4_1).f4) x6_3))) ⟨Xk B63 0, Xk B63 1, Xk B63 2, Xk B63 3, Xk B63 4, Xk B60 0, Xk B60 1, Xk B60 2, Xn hw214_0, Xn hw215_0, Xn hw217_0⟩ (fun hHeld => ?_); refine with_tabW spec_l02Nodes.tab11 spec_l02Nodes.bits11 (fun HT_ HW_ => ?_)
   generalize wr.drew = w42 at O_3 B60 B63 HB hx67_0 hx69_0 hx71_0 hHeld ⊢
   refine Pu 0 48 27 1 ?_
   refine Pu 2 50 27 5 ?_
   refine Pu 5 53 27 37 ?_
   refine Ta 1 49 27 39 ?_
   refine Pu 3 51 27 47 ?_
   refine Ta 4 52 27 63 ?_
   refine Ta 6 54 27 127 ?_
   refine Pu 7 55 27 255 ?_
   refine Pu 8 56 27 511 ?_
   refine Pu 9 57 27 1023 ?_
   refine Pu 10 58 27 2047 ?_
   refine Pu 12 60 27 6143 ?_
   refine Ta 11 59 27 8191 ?_
   refine Pu 13 61 27 16383 ?_
   refine Ta 14 62 27 32767 ?_
   refine On 15 63 27 65535 (fun K hK => ?_)
   refine Gs Tryz.func104 #[.slice Ao43 x3_3.length co43, .int .i64 (rd ((rd_T113 l0_2 x4_1).f4) x6_3)] ?_
   with_reducible refine (spec_l02Has.calls k3 _ _ x3_3 (rd ((rd_T113 l0_2 x4_1).f4) x6_3) false _ ?s1 ?s2 A32.out).mono ?_
   (case s1 => exact Xcd (Kd.R_reads' O_3.out).2.2)
   (case s2 => exact (Kd.R_reads' O_3.out).2.1)
   rintro e w' ⟨rfl, ⟨nd, rfl⟩⟩
   refine ⟨_, rfl, ?_⟩
   refine hK.out _ _ ⟨Xk B63 0, Xk B63 1, Xk B63 2, Xk B63 3, Xk B63 4, Xk B60 0, Xk B60 1, Xk B60 2, Xn hw214_0, Xn hw215_0, Xn hw217_0⟩ (fun hHeld => ?_)
   clear hK K
   refine Xno ?_
   refine Pu 16 64 27 131071 ?_
   refine Pu 17 65 27 262143 ?_
   refine Pu 19 67 27 786431 ?_
   refine Pu 21 69 27 2883583 ?_
   refine Ta 18 66 27 3145727 ?_
   refine Ta 20 68 27 4194303 ?_
   refine Pu 22 70 27 8388607 ?_
   refine Ta 23 71 27 16777215 ?_
   refine On 24 72 27 33554431 (fun K hK => ?_)
   refine Gs Tryz.func89 #[.agg #[.int .i64 a0_0, .int .i64 a0_1, .slice (some ad62) l0_2.length c0_2], .int .i64 (rd ((rd_T113 l0_2 x4_1).f4) x6_3)] ?_
   with_reducible refine (spec_l02At.calls k3 a0_0 a0_1 _ _ l0_2 (rd ((rd_T113 l0_2 x4_1).f4) x6_3) t70 _ ?s1 ?s2 A38.out).mono ?_
   (case s1 => exact Xc HR0_2)
   (case s2 => exact HC0_2.out)
   rintro e w44 ⟨rfl, hb⟩
   refine ⟨_, rfl, ?_⟩
   replace O_3 := Am (Kd.R_below (Xq O_3) hb)
   replace B60 := Xbb B60 hb
   replace B63 := Xbb B63 hb
   replace HB := Xhb hb
   try clear hb
   try clear hb2
   try clear hk
   try clear hi
   refine hK.out _ _ ⟨Xk B63 0, Xk B63 1, Xk B63 2, Xk B63 3, Xk B63 4, Xk B60 0, Xk B60 1, Xk B60 2, Xn hw214_0, Xn hw215_0, Xn hw217_0⟩ (fun hHeld => ?_)
   clear hK K
   refine Xno ?_
   refine Pu 25 73 27 67108863 ?_
   refine Pu 26 74 27 134217727 ?_
   refine Dn ?_
   go_upto_if 74 with (fail)
   have H := HC39.out
   clear HC39
   obtain ⟨c45b0, H⟩ | ⟨c45b0, H⟩ := Xit H
   ·(first | rw [c45b0] | (simp only [i64_w, i32_w]; rw [c45b0]) | skip)
    obtain rfl := Xsi H
    go_wp2
    go_ret
    exact ⟨Xe, Xi⟩
   (first | rw [c45b0] | (simp only [i64_w, i32_w]; rw [c45b0]) | skip)
   obtain ⟨c46, H⟩ := Xif H
   have LMc46 := Am c46
   clear c46
   obtain ⟨y72, hy72⟩ : ∃ y_ : List Int, y_ = (x3_3 ++ [rd ((rd_T113 l0_2 x4_1).f4) x6_3]) := ⟨_, rfl⟩
   replace H : (spec_l02Nodes.l1 k3 y72 x4_1 (wrap64 (x6_3 + 1)) a0_0 a0_1 l0_2 ((rd_T113 l0_2 x4_1).f0) ((rd_T113 l0_2 x4_1).f1) ((rd_T113 l0_2 x4_1).f2) ((rd_T113 l0_2 x4_1).f3) ((rd_T113 l0_2 x4_1).f4)) = some r := by first | (rw [hy72]; with_reducible exact H) | (have H2_ := (Option.bind_some _ _).symm.trans H; rw [hy72]; with_reducible exact H2_) | (have H2_ := (Option.bind_some _ _).symm.trans H; with_reducible exact H2_) | with_reducible exact H | (rw [hy72]; exact H) | exact H
   have Ny72 := Am hy72
   clear hy72
   have H' := Am H
   clear H
   have hnb47 := NB63_60.out
   have hnc47 := NB60_63.out
   obtain ⟨Z48_0, Z48_1, Z48_2, Z48_3, Z48_4⟩ := Xc5 B63
   obtain ⟨F48_0, F48_1, F48_2, F48_3, F48_4⟩ := Xf5 B63
   have p73 : 0 ≤ (x6_3 : Int) := Xo
   have q73 : x6_3 < (((rd_T113 l0_2 x4_1).f4).length : Int) := Xo
   obtain ⟨ad73, e73, hx73_0⟩ := Kd.at_int HR62_4.out x6_3 p73 q73
   obtain rfl : ad67 = ad73 := (by injection e73)
   replace hx73_0 := Xm HB hx73_0
   replace p73 := eq_true p73
   replace q73 := eq_true q73
   go_wp2_with (first | ((with_reducible refine gate_builtin (b := .append) (xs := #[.tmp 75, .tmp 81]) rfl ?_); at_builtin; refine Kd.R_append (Kd.int .i64) (w0 := w) w.heap.size rfl (.tmp 75) (.tmp 81) 30 3 (.int .i64 0) 8 rfl Tryz.underlying30 info3 rfl (by decide) (by omega) (.slice Ao43 x3_3.length co43) x3_3 (rd ((rd_T113 l0_2 x4_1).f4) x6_3) [.int .i64 (rd ((rd_T113 l0_2 x4_1).f4) x6_3)] (fun _ => True) (fun _ => False) rfl rfl ?aP (fun _ hk => hk.elim) ?aF ?aO ?aB ?aS ?aL ?_; (case aP => exact rfl); (case aB => exact Xi); (case aF => exact (fun _ _ => trivial)); (case aO => exact (Xq O_3)); (case aS => exact (below_size Xi)); (case aL => have := LMc46.out; omega); intro v221 w49 ho hb hg hat; rw [← Ny72.out] at ho; replace B60 := Am (blk_grown (g := gb60) (o := .cells #[.int .i64 a0_0, .int .i64 a0_1, .slice (some ad62) l0_2.length c0_2] 35 (0, 0)) (Xq' B60) hg (Kd.R_ne O_3.out B60.out (by decide))); replace B63 := Am (blk_grown (g := gb63) (o := .cells #[.int .i64 ((rd_T113 l0_2 x4_1).f0), .int .i64 ((rd_T113 l0_2 x4_1).f1), .int .i64 ((rd_T113 l0_2 x4_1).f2), .string ((rd_T113 l0_2 x4_1).f3), .slice (some ad67) ((rd_T113 l0_2 x4_1).f4).length c210_4] 113 (0, 0)) (Xq' B63) hg (Kd.R_ne O_3.out B63.out (by decide))); replace HB := Am (hb); have HO74 := Am (ho); clear O_3; clear ho hb hg hat))
   go_roundg k3
   case measure => have := HK1.out; have := HJ6.out; have := HK3.out; omega
   case rel => exact ⟨(y72), (wrap64 (x6_3 + 1)), Xr, H', ⟨by have := HK1.out; have := HJ6.out; have := HK3.out; omega⟩, (Xp' HO74), (Xp B60), (Xp B63), ⟨Xi⟩⟩
  have H' := Am H
  clear H
  have hnb50 := NB63_60.out
  have hnc50 := NB60_63.out
  obtain ⟨Z51_0, Z51_1, Z51_2, Z51_3, Z51_4⟩ := Xc5 B63
  obtain ⟨F51_0, F51_1, F51_2, F51_3, F51_4⟩ := Xf5 B63
  go_wp2
  go_roundg k3
  case measure => have := HK1.out; have := HJ6.out; have := HK3.out; omega
  case rel => exact ⟨(x3_3), (wrap64 (x4_1 + 1)), Xr, H', ⟨by have := HK1.out; have := HJ6.out; have := HK3.out; omega⟩, (Xp' O_3), (Xp B60), ⟨Xi⟩⟩
 obtain ⟨c52, H⟩ | ⟨c52, H⟩ := Xiu H
 ·have c52b0 : ((x3_1.length : Int) == (wrap64 ((l0_2.length : Int) - 1))) = true := beq_iff_eq.mpr c52
  have c52b1 : ((x3_1.length : Int) != (wrap64 ((l0_2.length : Int) - 1))) = false := bne_eq_false_iff_eq.mpr c52
  clear c52
  obtain ⟨t75, A53, H⟩ := Xbi H
  try dsimp only at H
  obtain rfl := Xsi H
  obtain ⟨Z54_0, Z54_1, Z54_2⟩ := Xc3 B60
  obtain ⟨F54_0, F54_1, F54_2⟩ := Xf3 B60
  obtain ⟨Ao55, co55, eo55⟩ := Kd.R_slice O_3.out
  subst eo55
  go_wp2_with (first | (go_at_call 89; (with_reducible refine (spec_l02At.calls k1 a0_0 a0_1 _ _ l0_2 a0_0 t75 _ ?s1 ?s2 A53.out).mono ?_); (case s1 => exact Xc HR0_2); (case s2 => exact HC0_2.out); rintro e w56 ⟨rfl, hb⟩; replace O_3 := Am (Kd.R_below (Xq O_3) hb); replace B60 := Xbb B60 hb; replace HB := Xhb hb; clear hb))
  go_ret
  exact ⟨Xe, Xi⟩
 have c52b0 : ((x3_1.length : Int) == (wrap64 ((l0_2.length : Int) - 1))) = false := beq_eq_false_iff_ne.mpr c52
 have c52b1 : ((x3_1.length : Int) != (wrap64 ((l0_2.length : Int) - 1))) = true := bne_iff_ne.mpr c52
 obtain rfl := Xsi H
 obtain ⟨Z57_0, Z57_1, Z57_2⟩ := Xc3 B60
 obtain ⟨F57_0, F57_1, F57_2⟩ := Xf3 B60
 obtain ⟨Ao58, co58, eo58⟩ := Kd.R_slice O_3.out
 subst eo58
 go_wp2
 go_ret
 exact ⟨Xe, Xi⟩
end Go.Proofs.YtahhgjkgfbppeaaGreat.XA
