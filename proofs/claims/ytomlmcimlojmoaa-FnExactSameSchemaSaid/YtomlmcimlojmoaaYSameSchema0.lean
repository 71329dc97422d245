/- Contracts of the program's functions: each Go function that is named below comes to what its Lean function says. Written by xprint.py (a program of this session's, over the kit's print). Conditions: each contract's own premises. -/
import Derived.Test.YtomlmcimlojmoaaProg
import Derived.Test.YtomlmcimlojmoaaXW
import Derived.Below
import Derived.Deep.Draws
import Derived.Deep.AppendLies
import Derived.Maps.AppendAt
import Derived.OwnWalk
import Derived.Laws.BytesArg
import Derived.Laws.MakeOwn
import Derived.Laws.OwnMore
import Derived.Deep.OwnRows
import Derived.Tactics
import Derived.Lib.ConvBytes
import Derived.Laws.Slices
import Derived.WalkKit
import Derived.KernelRfl
import Derived.RowKit3
import Derived.Deep.LoopGhost
import Derived.Deep.QuietTactic
import Derived.BigQuiet
import Derived.WideLaws
import Derived.Deep.DeepCutAuto
import Derived.Deep.CutBlock
import Derived.Deep.RegionHeld3
import Derived.Laws.Rows
import Derived.Lib.AppendStr
import Derived.ArgAppend
import Derived.Laws.IdiomCopy
import Derived.OrdersHeld
import Derived.Laws.BitsLemmas
import Derived.RowKit
import Derived.Test.YtomlmcimlojmoaaWWords
import Derived.Test.YtomlmcimlojmoaaWLast
import Derived.Test.YtomlmcimlojmoaaWTab
import Derived.Test.YtomlmcimlojmoaaWQPut
import Derived.Test.YtomlmcimlojmoaaWApart
import Derived.Test.YtomlmcimlojmoaaWArr
import Derived.Test.YtomlmcimlojmoaaWZeros
import Derived.Test.YtomlmcimlojmoaaWFoot
import Derived.Test.YtomlmcimlojmoaaWKept
import Derived.Test.YtomlmcimlojmoaaWShare
import Derived.Test.YtomlmcimlojmoaaWN
import Derived.Test.YtomlmcimlojmoaaWRepsOne
import Derived.Test.YtomlmcimlojmoaaWGuard
import Derived.Test.YtomlmcimlojmoaaWNEv
import Derived.Test.YtomlmcimlojmoaaWMore
namespace Go.Proofs.Ytomlmcimlojmoaa.XA
open Go.RowKit Go.Proofs.YtomlmcimlojmoaaW.PrintWords Go.Proofs.YtomlmcimlojmoaaW.PrintLast Go.Proofs.YtomlmcimlojmoaaW.PrintMore XW
attribute [local go_sem] max2_int min2_int max_two min_two max_three min_three max_four min_four   -- for this text's walks alone
set_option linter.unusedVariables false
set_option linter.unusedSimpArgs false
def errW : Option Int → Value
  | none => .nilIface
  | some c => .iface 0 (.int .i64 c)
theorem errW_none : errW none = .nilIface := rfl
theorem errW_some (c : Int) : errW (some c) = .iface 0 (.int .i64 c) := rfl
theorem info3 : (Try.prog.info? 3).map (fun i => (i.zero, i.size, i.bytes)) = some (some (.int .i64 0), 1, 8) := by kernel_rfl
theorem info9 : (Try.prog.info? 9).map (fun i => (i.zero, i.size, i.bytes)) = some (some (.string ⟨#[]⟩), 1, 16) := by kernel_rfl
theorem info80 : (Try.prog.info? 80).map (fun i => (i.zero, i.size, i.bytes)) = some (some (.agg #[(.string ⟨#[]⟩), (.bool false), (.slice none 0 0)]), 3, 48) := by kernel_rfl
theorem info89 : (Try.prog.info? 89).map (fun i => (i.zero, i.size, i.bytes)) = some (some (.agg #[(.slice none 0 0), (.int .i64 0)]), 2, 32) := by kernel_rfl
structure S86 where
  f0 : (List Int)
  f1 : Int
def z86 : S86 := ⟨([] : List Int), (0 : Int)⟩
def k86 : Kd S86 := Kd.iso (Kd.pair (Kd.slice 3 (Kd.int .i64)) (Kd.int .i64)) (fun x : S86 => (x.f0, x.f1))
theorem k86_open {w : World} {x : S86} {cs : List Value} (h : k86.K w x cs) : ∃ A0 c0, cs = [.slice A0 x.f0.length c0, .int .i64 x.f1] ∧ x.f0.length ≤ c0 ∧ (Kd.int .i64).C w A0 x.f0.length x.f0 := by
  obtain ⟨_, _, rfl, ⟨A0, c0, rfl, l0, g0⟩, rfl⟩ := h
  exact ⟨A0, c0, rfl, l0, g0⟩
def rd_T86 (xs : List S86) (i : Int) : S86 := xs.getD i.toNat z86
theorem at_T86 {w : World} {A : Option Addr} {n : Nat} {xs : List S86} (h : Kd.C k86 w A n xs) (i : Int) (h0 : 0 ≤ i) (h1 : i < n) : ∃ ad A0 c0, A = some ad ∧ w.cell? (ad.add (i.toNat * 2)) = some (.slice A0 (rd_T86 xs i).f0.length c0) ∧ w.cell? ⟨(ad.add (i.toNat * 2)).block, (ad.add (i.toNat * 2)).off + 1, none⟩ = some (.int .i64 (rd_T86 xs i).f1) ∧ (rd_T86 xs i).f0.length ≤ c0 ∧ (Kd.int .i64).C w A0 (rd_T86 xs i).f0.length (rd_T86 xs i).f0 := by
  obtain ⟨ad, c, e, _, hK, hc0⟩ := Kd.C_get h z86 i h0 h1
  have hc : ∀ j u, c[j]? = some u → w.cell? (ad.add (i.toNat * 2 + j)) = some u := hc0
  obtain ⟨A0, c0, rfl, l0, g0⟩ := k86_open hK
  exact ⟨ad, A0, c0, e, hc 0 _ rfl, by rw [← add_field _ _ 1 (by omega)]; exact hc 1 _ rfl, l0, g0⟩
theorem at_B86 {w W : World} {A : Option Addr} {n : Nat} {xs : List S86} (h : Aside0 (Kd.C k86 w A n xs)) (i : Int) (h0 : decide (0 ≤ i) = true) (h1 : decide (i < (n : Int)) = true) (hb : Aside0 (Below w.heap.size w W)) : ∃ ad A0 c0, A = some ad ∧ (0 ≤ i) = True ∧ (i < (n : Int)) = True ∧ W.cell? (ad.add (i.toNat * 2)) = some (.slice A0 (rd_T86 xs i).f0.length c0) ∧ W.cell? ⟨(ad.add (i.toNat * 2)).block, (ad.add (i.toNat * 2)).off + 1, none⟩ = some (.int .i64 (rd_T86 xs i).f1) ∧ Aside0 ((rd_T86 xs i).f0.length ≤ c0) ∧ Aside0 ((Kd.int .i64).C w A0 (rd_T86 xs i).f0.length (rd_T86 xs i).f0) := by
 obtain ⟨ad, A0, c0, e, y0, y1, y2, y3⟩ := at_T86 h.out i (of_decide_eq_true h0) (of_decide_eq_true h1)
 exact ⟨ad, A0, c0, e, eq_true (of_decide_eq_true h0), eq_true (of_decide_eq_true h1), Xm hb y0, Xm hb y1, ⟨y2⟩, ⟨y3⟩⟩
structure S76 where
  f0 : ByteArray
  f1 : Bool
  f2 : (List S86)
def z76 : S76 := ⟨(⟨#[]⟩ : ByteArray), false, ([] : List S86)⟩
def k76 : Kd S76 := Kd.iso (Kd.pair Kd.string (Kd.pair Kd.bool (Kd.slice 86 k86))) (fun x : S76 => (x.f0, x.f1, x.f2))
theorem k76_open {w : World} {x : S76} {cs : List Value} (h : k76.K w x cs) : ∃ A2 c2, cs = [.string x.f0, .bool x.f1, .slice A2 x.f2.length c2] ∧ x.f2.length ≤ c2 ∧ k86.C w A2 x.f2.length x.f2 := by
  obtain ⟨_, _, rfl, rfl, ⟨_, _, rfl, rfl, ⟨A2, c2, rfl, l2, g2⟩⟩⟩ := h
  exact ⟨A2, c2, rfl, l2, g2⟩
def rd_T76 (xs : List S76) (i : Int) : S76 := xs.getD i.toNat z76
theorem at_T76 {w : World} {A : Option Addr} {n : Nat} {xs : List S76} (h : Kd.C k76 w A n xs) (i : Int) (h0 : 0 ≤ i) (h1 : i < n) : ∃ ad A2 c2, A = some ad ∧ w.cell? (ad.add (i.toNat * 3)) = some (.string (rd_T76 xs i).f0) ∧ w.cell? ⟨(ad.add (i.toNat * 3)).block, (ad.add (i.toNat * 3)).off + 1, none⟩ = some (.bool (rd_T76 xs i).f1) ∧ w.cell? ⟨(ad.add (i.toNat * 3)).block, (ad.add (i.toNat * 3)).off + 2, none⟩ = some (.slice A2 (rd_T76 xs i).f2.length c2) ∧ (rd_T76 xs i).f2.length ≤ c2 ∧ k86.C w A2 (rd_T76 xs i).f2.length (rd_T76 xs i).f2 := by
  obtain ⟨ad, c, e, _, hK, hc0⟩ := Kd.C_get h z76 i h0 h1
  have hc : ∀ j u, c[j]? = some u → w.cell? (ad.add (i.toNat * 3 + j)) = some u := hc0
  obtain ⟨A2, c2, rfl, l2, g2⟩ := k76_open hK
  exact ⟨ad, A2, c2, e, hc 0 _ rfl, by rw [← add_field _ _ 1 (by omega)]; exact hc 1 _ rfl, by rw [← add_field _ _ 2 (by omega)]; exact hc 2 _ rfl, l2, g2⟩
theorem at_B76 {w W : World} {A : Option Addr} {n : Nat} {xs : List S76} (h : Aside0 (Kd.C k76 w A n xs)) (i : Int) (h0 : decide (0 ≤ i) = true) (h1 : decide (i < (n : Int)) = true) (hb : Aside0 (Below w.heap.size w W)) : ∃ ad A2 c2, A = some ad ∧ (0 ≤ i) = True ∧ (i < (n : Int)) = True ∧ W.cell? (ad.add (i.toNat * 3)) = some (.string (rd_T76 xs i).f0) ∧ W.cell? ⟨(ad.add (i.toNat * 3)).block, (ad.add (i.toNat * 3)).off + 1, none⟩ = some (.bool (rd_T76 xs i).f1) ∧ W.cell? ⟨(ad.add (i.toNat * 3)).block, (ad.add (i.toNat * 3)).off + 2, none⟩ = some (.slice A2 (rd_T76 xs i).f2.length c2) ∧ Aside0 ((rd_T76 xs i).f2.length ≤ c2) ∧ Aside0 (k86.C w A2 (rd_T76 xs i).f2.length (rd_T76 xs i).f2) := by
 obtain ⟨ad, A2, c2, e, y0, y1, y2, y3, y4⟩ := at_T76 h.out i (of_decide_eq_true h0) (of_decide_eq_true h1)
 exact ⟨ad, A2, c2, e, eq_true (of_decide_eq_true h0), eq_true (of_decide_eq_true h1), Xm hb y0, Xm hb y1, Xm hb y2, ⟨y3⟩, ⟨y4⟩⟩
structure S89 where
  f0 : (List Int)
  f1 : Int
def z89 : S89 := ⟨([] : List Int), (0 : Int)⟩
def k89 : Kd S89 := Kd.iso (Kd.pair (Kd.slice 3 (Kd.int .i64)) (Kd.int .i64)) (fun x : S89 => (x.f0, x.f1))
theorem k89_open {w : World} {x : S89} {cs : List Value} (h : k89.K w x cs) : ∃ A0 c0, cs = [.slice A0 x.f0.length c0, .int .i64 x.f1] ∧ x.f0.length ≤ c0 ∧ (Kd.int .i64).C w A0 x.f0.length x.f0 := by
  obtain ⟨_, _, rfl, ⟨A0, c0, rfl, l0, g0⟩, rfl⟩ := h
  exact ⟨A0, c0, rfl, l0, g0⟩
theorem k89_openM {w : World} {base : Nat} {ok : Nat → Prop} {x : S89} {cs : List Value} (h : k89.M w base ok x cs) : ∃ v0, cs = [v0, .int .i64 x.f1] ∧ (Kd.int .i64).R 3 w base ok v0 x.f0 := by
  obtain ⟨_, _, rfl, ⟨v0, rfl, g0⟩, rfl⟩ := h
  exact ⟨v0, rfl, g0⟩
theorem k89_mkM (w : World) (base : Nat) (ok : Nat → Prop) (x : S89) {v0 : Value} (g0 : (Kd.int .i64).R 3 w base ok v0 x.f0) : k89.M w base ok x [v0, .int .i64 x.f1] := ⟨[v0], [.int .i64 x.f1], rfl, ⟨v0, rfl, g0⟩, rfl⟩
def rd_T89 (xs : List S89) (i : Int) : S89 := xs.getD i.toNat z89
theorem at_T89 {w : World} {A : Option Addr} {n : Nat} {xs : List S89} (h : Kd.C k89 w A n xs) (i : Int) (h0 : 0 ≤ i) (h1 : i < n) : ∃ ad A0 c0, A = some ad ∧ w.cell? (ad.add (i.toNat * 2)) = some (.slice A0 (rd_T89 xs i).f0.length c0) ∧ w.cell? ⟨(ad.add (i.toNat * 2)).block, (ad.add (i.toNat * 2)).off + 1, none⟩ = some (.int .i64 (rd_T89 xs i).f1) ∧ (rd_T89 xs i).f0.length ≤ c0 ∧ (Kd.int .i64).C w A0 (rd_T89 xs i).f0.length (rd_T89 xs i).f0 := by
  obtain ⟨ad, c, e, _, hK, hc0⟩ := Kd.C_get h z89 i h0 h1
  have hc : ∀ j u, c[j]? = some u → w.cell? (ad.add (i.toNat * 2 + j)) = some u := hc0
  obtain ⟨A0, c0, rfl, l0, g0⟩ := k89_open hK
  exact ⟨ad, A0, c0, e, hc 0 _ rfl, by rw [← add_field _ _ 1 (by omega)]; exact hc 1 _ rfl, l0, g0⟩
theorem at_B89 {w W : World} {A : Option Addr} {n : Nat} {xs : List S89} (h : Aside0 (Kd.C k89 w A n xs)) (i : Int) (h0 : decide (0 ≤ i) = true) (h1 : decide (i < (n : Int)) = true) (hb : Aside0 (Below w.heap.size w W)) : ∃ ad A0 c0, A = some ad ∧ (0 ≤ i) = True ∧ (i < (n : Int)) = True ∧ W.cell? (ad.add (i.toNat * 2)) = some (.slice A0 (rd_T89 xs i).f0.length c0) ∧ W.cell? ⟨(ad.add (i.toNat * 2)).block, (ad.add (i.toNat * 2)).off + 1, none⟩ = some (.int .i64 (rd_T89 xs i).f1) ∧ Aside0 ((rd_T89 xs i).f0.length ≤ c0) ∧ Aside0 ((Kd.int .i64).C w A0 (rd_T89 xs i).f0.length (rd_T89 xs i).f0) := by
 obtain ⟨ad, A0, c0, e, y0, y1, y2, y3⟩ := at_T89 h.out i (of_decide_eq_true h0) (of_decide_eq_true h1)
 exact ⟨ad, A0, c0, e, eq_true (of_decide_eq_true h0), eq_true (of_decide_eq_true h1), Xm hb y0, Xm hb y1, ⟨y2⟩, ⟨y3⟩⟩
structure S80 where
  f0 : ByteArray
  f1 : Bool
  f2 : (List S89)
def z80 : S80 := ⟨(⟨#[]⟩ : ByteArray), false, ([] : List S89)⟩
def k80 : Kd S80 := Kd.iso (Kd.pair Kd.string (Kd.pair Kd.bool (Kd.slice 89 k89))) (fun x : S80 => (x.f0, x.f1, x.f2))
theorem k80_open {w : World} {x : S80} {cs : List Value} (h : k80.K w x cs) : ∃ A2 c2, cs = [.string x.f0, .bool x.f1, .slice A2 x.f2.length c2] ∧ x.f2.length ≤ c2 ∧ k89.C w A2 x.f2.length x.f2 := by
  obtain ⟨_, _, rfl, rfl, ⟨_, _, rfl, rfl, ⟨A2, c2, rfl, l2, g2⟩⟩⟩ := h
  exact ⟨A2, c2, rfl, l2, g2⟩
theorem k80_openM {w : World} {base : Nat} {ok : Nat → Prop} {x : S80} {cs : List Value} (h : k80.M w base ok x cs) : ∃ v2, cs = [.string x.f0, .bool x.f1, v2] ∧ k89.R 89 w base ok v2 x.f2 := by
  obtain ⟨_, _, rfl, rfl, ⟨_, _, rfl, rfl, ⟨v2, rfl, g2⟩⟩⟩ := h
  exact ⟨v2, rfl, g2⟩
theorem k80_mkM (w : World) (base : Nat) (ok : Nat → Prop) (x : S80) {v2 : Value} (g2 : k89.R 89 w base ok v2 x.f2) : k80.M w base ok x [.string x.f0, .bool x.f1, v2] := ⟨[.string x.f0], [.bool x.f1, v2], rfl, rfl, ⟨[.bool x.f1], [v2], rfl, rfl, ⟨v2, rfl, g2⟩⟩⟩
def rd_T80 (xs : List S80) (i : Int) : S80 := xs.getD i.toNat z80
theorem at_T80 {w : World} {A : Option Addr} {n : Nat} {xs : List S80} (h : Kd.C k80 w A n xs) (i : Int) (h0 : 0 ≤ i) (h1 : i < n) : ∃ ad A2 c2, A = some ad ∧ w.cell? (ad.add (i.toNat * 3)) = some (.string (rd_T80 xs i).f0) ∧ w.cell? ⟨(ad.add (i.toNat * 3)).block, (ad.add (i.toNat * 3)).off + 1, none⟩ = some (.bool (rd_T80 xs i).f1) ∧ w.cell? ⟨(ad.add (i.toNat * 3)).block, (ad.add (i.toNat * 3)).off + 2, none⟩ = some (.slice A2 (rd_T80 xs i).f2.length c2) ∧ (rd_T80 xs i).f2.length ≤ c2 ∧ k89.C w A2 (rd_T80 xs i).f2.length (rd_T80 xs i).f2 := by
  obtain ⟨ad, c, e, _, hK, hc0⟩ := Kd.C_get h z80 i h0 h1
  have hc : ∀ j u, c[j]? = some u → w.cell? (ad.add (i.toNat * 3 + j)) = some u := hc0
  obtain ⟨A2, c2, rfl, l2, g2⟩ := k80_open hK
  exact ⟨ad, A2, c2, e, hc 0 _ rfl, by rw [← add_field _ _ 1 (by omega)]; exact hc 1 _ rfl, by rw [← add_field _ _ 2 (by omega)]; exact hc 2 _ rfl, l2, g2⟩
theorem at_B80 {w W : World} {A : Option Addr} {n : Nat} {xs : List S80} (h : Aside0 (Kd.C k80 w A n xs)) (i : Int) (h0 : decide (0 ≤ i) = true) (h1 : decide (i < (n : Int)) = true) (hb : Aside0 (Below w.heap.size w W)) : ∃ ad A2 c2, A = some ad ∧ (0 ≤ i) = True ∧ (i < (n : Int)) = True ∧ W.cell? (ad.add (i.toNat * 3)) = some (.string (rd_T80 xs i).f0) ∧ W.cell? ⟨(ad.add (i.toNat * 3)).block, (ad.add (i.toNat * 3)).off + 1, none⟩ = some (.bool (rd_T80 xs i).f1) ∧ W.cell? ⟨(ad.add (i.toNat * 3)).block, (ad.add (i.toNat * 3)).off + 2, none⟩ = some (.slice A2 (rd_T80 xs i).f2.length c2) ∧ Aside0 ((rd_T80 xs i).f2.length ≤ c2) ∧ Aside0 (k89.C w A2 (rd_T80 xs i).f2.length (rd_T80 xs i).f2) := by
 obtain ⟨ad, A2, c2, e, y0, y1, y2, y3, y4⟩ := at_T80 h.out i (of_decide_eq_true h0) (of_decide_eq_true h1)
 exact ⟨ad, A2, c2, e, eq_true (of_decide_eq_true h0), eq_true (of_decide_eq_true h1), Xm hb y0, Xm hb y1, Xm hb y2, ⟨y3⟩, ⟨y4⟩⟩
end Go.Proofs.Ytomlmcimlojmoaa.XA
