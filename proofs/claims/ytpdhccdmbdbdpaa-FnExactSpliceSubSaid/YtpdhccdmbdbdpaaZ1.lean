/- Words and contracts of this claim, put together out of several texts by a program of this session's. Conditions: each theorem's own premises. -/
import Derived.Test.YtpdhccdmbdbdpaaProg
import Derived.Test.YtpdhccdmbdbdpaaZ0
import Derived.Below
import Derived.Deep.Draws
import Derived.Deep.AppendLies
import Derived.Maps.AppendAt
import Derived.OwnWalk
import Derived.Laws.BytesArg
import Derived.Laws.MakeOwn
import Derived.Laws.OwnMore
import Derived.Deep.OwnRows
import Derived.Tactics
import Derived.Lib.ConvBytes
import Derived.Laws.Slices
import Derived.WalkKit
import Derived.KernelRfl
import Derived.RowKit3
import Derived.Deep.LoopGhost
import Derived.Deep.QuietTactic
import Derived.BigQuiet
import Derived.WideLaws
import Derived.Deep.DeepCutAuto
import Derived.Deep.CutBlock
import Derived.Deep.RegionHeld3
import Derived.Laws.Rows
import Derived.Lib.AppendStr
import Derived.ArgAppend
import Derived.Laws.IdiomCopy
import Derived.OrdersHeld
import Derived.Laws.BitsLemmas
import Derived.RowKit
namespace Go.Proofs.Ytpdhccdmbdbdpaa.XA
open Go.RowKit Go.Proofs.YtpdhccdmbdbdpaaW.PrintWords Go.Proofs.YtpdhccdmbdbdpaaW.PrintLast Go.Proofs.YtpdhccdmbdbdpaaW.PrintMore XW
attribute [local go_sem] max2_int min2_int max_two min_two max_three min_three max_four min_four   -- for this text's walks alone
set_option linter.unusedVariables false
set_option linter.unusedSimpArgs false
set_option maxHeartbeats 8000000
set_option maxRecDepth 100000
theorem info3 : (Try.prog.info? 3).map (fun i => (i.zero, i.size, i.bytes)) = some (some (.int .i64 0), 1, 8) := by kernel_rfl
theorem info43 : (Try.prog.info? 43).map (fun i => (i.zero, i.size, i.bytes)) = some (some (.agg #[(.int .i64 0), (.int .i64 0), (.int .i64 0), (.string ⟨#[]⟩), (.slice none 0 0)]), 5, 64) := by kernel_rfl
structure S112 where
  f0 : Int
  f1 : Int
  f2 : Int
  f3 : ByteArray
  f4 : (List Int)
def z112 : S112 := ⟨(0 : Int), (0 : Int), (0 : Int), (⟨#[]⟩ : ByteArray), ([] : List Int)⟩
def k112 : Kd S112 := Kd.iso (Kd.pair (Kd.int .i64) (Kd.pair (Kd.int .i64) (Kd.pair (Kd.int .i64) (Kd.pair Kd.string (Kd.slice 3 (Kd.int .i64)))))) (fun x : S112 => (x.f0, x.f1, x.f2, x.f3, x.f4))
theorem k112_open {w : World} {x : S112} {cs : List Value} (h : k112.K w x cs) : ∃ A4 c4, cs = [.int .i64 x.f0, .int .i64 x.f1, .int .i64 x.f2, .string x.f3, .slice A4 x.f4.length c4] ∧ x.f4.length ≤ c4 ∧ (Kd.int .i64).C w A4 x.f4.length x.f4 := by
 obtain ⟨_, _, rfl, rfl, ⟨_, _, rfl, rfl, ⟨_, _, rfl, rfl, ⟨_, _, rfl, rfl, ⟨A4, c4, rfl, l4, g4⟩⟩⟩⟩⟩ := h
 exact ⟨A4, c4, rfl, l4, g4⟩
def rd_T112 (xs : List S112) (i : Int) : S112 := xs.getD i.toNat z112
theorem at_T112 {w : World} {A : Option Addr} {n : Nat} {xs : List S112} (h : Kd.C k112 w A n xs) (i : Int) (h0 : 0 ≤ i) (h1 : i < n) : ∃ ad A4 c4, A = some ad ∧ w.cell? (ad.add (i.toNat * 5)) = some (.int .i64 (rd_T112 xs i).f0) ∧ w.cell? ⟨(ad.add (i.toNat * 5)).block, (ad.add (i.toNat * 5)).off + 1, none⟩ = some (.int .i64 (rd_T112 xs i).f1) ∧ w.cell? ⟨(ad.add (i.toNat * 5)).block, (ad.add (i.toNat * 5)).off + 2, none⟩ = some (.int .i64 (rd_T112 xs i).f2) ∧ w.cell? ⟨(ad.add (i.toNat * 5)).block, (ad.add (i.toNat * 5)).off + 3, none⟩ = some (.string (rd_T112 xs i).f3) ∧ w.cell? ⟨(ad.add (i.toNat * 5)).block, (ad.add (i.toNat * 5)).off + 4, none⟩ = some (.slice A4 (rd_T112 xs i).f4.length c4) ∧ (rd_T112 xs i).f4.length ≤ c4 ∧ (Kd.int .i64).C w A4 (rd_T112 xs i).f4.length (rd_T112 xs i).f4 := by
 obtain ⟨ad, c, e, _, hK, hc0⟩ := Kd.C_get h z112 i h0 h1
 have hc : ∀ j u, c[j]? = some u → w.cell? (ad.add (i.toNat * 5 + j)) = some u := hc0
 obtain ⟨A4, c4, rfl, l4, g4⟩ := k112_open hK
 exact ⟨ad, A4, c4, e, hc 0 _ rfl, by rw [← add_field _ _ 1 (by omega)]; exact hc 1 _ rfl, by rw [← add_field _ _ 2 (by omega)]; exact hc 2 _ rfl, by rw [← add_field _ _ 3 (by omega)]; exact hc 3 _ rfl, by rw [← add_field _ _ 4 (by omega)]; exact hc 4 _ rfl, l4, g4⟩
theorem at_B112 {w W : World} {A : Option Addr} {n : Nat} {xs : List S112} (h : Aside0 (Kd.C k112 w A n xs)) (i : Int) (h0 : decide (0 ≤ i) = true) (h1 : decide (i < (n : Int)) = true) (hb : Aside0 (Below w.heap.size w W)) : ∃ ad A4 c4, A = some ad ∧ (0 ≤ i) = True ∧ (i < (n : Int)) = True ∧ W.cell? (ad.add (i.toNat * 5)) = some (.int .i64 (rd_T112 xs i).f0) ∧ W.cell? ⟨(ad.add (i.toNat * 5)).block, (ad.add (i.toNat * 5)).off + 1, none⟩ = some (.int .i64 (rd_T112 xs i).f1) ∧ W.cell? ⟨(ad.add (i.toNat * 5)).block, (ad.add (i.toNat * 5)).off + 2, none⟩ = some (.int .i64 (rd_T112 xs i).f2) ∧ W.cell? ⟨(ad.add (i.toNat * 5)).block, (ad.add (i.toNat * 5)).off + 3, none⟩ = some (.string (rd_T112 xs i).f3) ∧ W.cell? ⟨(ad.add (i.toNat * 5)).block, (ad.add (i.toNat * 5)).off + 4, none⟩ = some (.slice A4 (rd_T112 xs i).f4.length c4) ∧ Aside0 ((rd_T112 xs i).f4.length ≤ c4) ∧ Aside0 ((Kd.int .i64).C w A4 (rd_T112 xs i).f4.length (rd_T112 xs i).f4) := by
 obtain ⟨ad, A4, c4, e, y0, y1, y2, y3, y4, y5, y6⟩ := at_T112 h.out i (of_decide_eq_true h0) (of_decide_eq_true h1)
 exact ⟨ad, A4, c4, e, eq_true (of_decide_eq_true h0), eq_true (of_decide_eq_true h1), Xm hb y0, Xm hb y1, Xm hb y2, Xm hb y3, Xm hb y4, ⟨y5⟩, ⟨y6⟩⟩
structure S43 where
  f0 : Int
  f1 : Int
  f2 : Int
  f3 : ByteArray
  f4 : (List Int)
def z43 : S43 := ⟨(0 : Int), (0 : Int), (0 : Int), (⟨#[]⟩ : ByteArray), ([] : List Int)⟩
def k43 : Kd S43 := Kd.iso (Kd.pair (Kd.int .i64) (Kd.pair (Kd.int .i64) (Kd.pair (Kd.int .i64) (Kd.pair Kd.string (Kd.slice 3 (Kd.int .i64)))))) (fun x : S43 => (x.f0, x.f1, x.f2, x.f3, x.f4))
theorem k43_heap : Kd.Heap k43 := Kd.heap_iso _ (Kd.heap_pair (Kd.heap_int .i64) (Kd.heap_pair (Kd.heap_int .i64) (Kd.heap_pair (Kd.heap_int .i64) (Kd.heap_pair Kd.heap_string (Kd.heap_slice 3 (Kd.heap_int .i64))))))
theorem k43_open {w : World} {x : S43} {cs : List Value} (h : k43.K w x cs) : ∃ A4 c4, cs = [.int .i64 x.f0, .int .i64 x.f1, .int .i64 x.f2, .string x.f3, .slice A4 x.f4.length c4] ∧ x.f4.length ≤ c4 ∧ (Kd.int .i64).C w A4 x.f4.length x.f4 := by
 obtain ⟨_, _, rfl, rfl, ⟨_, _, rfl, rfl, ⟨_, _, rfl, rfl, ⟨_, _, rfl, rfl, ⟨A4, c4, rfl, l4, g4⟩⟩⟩⟩⟩ := h
 exact ⟨A4, c4, rfl, l4, g4⟩
theorem k43_openM {w : World} {base : Nat} {ok : Nat → Prop} {x : S43} {cs : List Value} (h : k43.M w base ok x cs) : ∃ v4, cs = [.int .i64 x.f0, .int .i64 x.f1, .int .i64 x.f2, .string x.f3, v4] ∧ (Kd.int .i64).R 3 w base ok v4 x.f4 := by
 obtain ⟨_, _, rfl, rfl, ⟨_, _, rfl, rfl, ⟨_, _, rfl, rfl, ⟨_, _, rfl, rfl, ⟨v4, rfl, g4⟩⟩⟩⟩⟩ := h
 exact ⟨v4, rfl, g4⟩
theorem k43_mk (w : World) (x : S43) {A4 : Option Addr} {c4 : Nat} (l4 : x.f4.length ≤ c4) (g4 : (Kd.int .i64).C w A4 x.f4.length x.f4) : k43.K w x [.int .i64 x.f0, .int .i64 x.f1, .int .i64 x.f2, .string x.f3, .slice A4 x.f4.length c4] := ⟨[.int .i64 x.f0], [.int .i64 x.f1, .int .i64 x.f2, .string x.f3, .slice A4 x.f4.length c4], rfl, rfl, ⟨[.int .i64 x.f1], [.int .i64 x.f2, .string x.f3, .slice A4 x.f4.length c4], rfl, rfl, ⟨[.int .i64 x.f2], [.string x.f3, .slice A4 x.f4.length c4], rfl, rfl, ⟨[.string x.f3], [.slice A4 x.f4.length c4], rfl, rfl, ⟨A4, c4, rfl, l4, g4⟩⟩⟩⟩⟩
theorem k43_mkM (w : World) (base : Nat) (ok : Nat → Prop) (x : S43) {v4 : Value} (g4 : (Kd.int .i64).R 3 w base ok v4 x.f4) : k43.M w base ok x [.int .i64 x.f0, .int .i64 x.f1, .int .i64 x.f2, .string x.f3, v4] := ⟨[.int .i64 x.f0], [.int .i64 x.f1, .int .i64 x.f2, .string x.f3, v4], rfl, rfl, ⟨[.int .i64 x.f1], [.int .i64 x.f2, .string x.f3, v4], rfl, rfl, ⟨[.int .i64 x.f2], [.string x.f3, v4], rfl, rfl, ⟨[.string x.f3], [v4], rfl, rfl, ⟨v4, rfl, g4⟩⟩⟩⟩⟩
theorem k43_openF {W : World} {ok : Nat → Prop} {x : S43} {cs : List Value} (h : Kd.FK k43 W ok x cs) : ∃ A4 c4, cs = [.int .i64 x.f0, .int .i64 x.f1, .int .i64 x.f2, .string x.f3, .slice A4 x.f4.length c4] ∧ x.f4.length ≤ c4 ∧ Kd.F (Kd.int .i64) W ok A4 x.f4.length x.f4 := by
 obtain ⟨A4, c4, rfl, l4, _⟩ := k43_open (Kd.FK_now h)
 exact ⟨A4, c4, rfl, l4, (fun W' hW => by obtain ⟨A4_, c4_, he, l4_, g4_⟩ := k43_open (h W' hW); injection (Option.some.inj (show some (Value.slice A4 x.f4.length c4) = some (Value.slice A4_ x.f4.length c4_) from congrArg (fun l => l[4]?) he)) with ha_ _ _; rw [ha_]; exact g4_)⟩
theorem k43_mkF (W : World) (ok : Nat → Prop) (x : S43) {A4 : Option Addr} {c4 : Nat} (l4 : x.f4.length ≤ c4) (g4 : Kd.F (Kd.int .i64) W ok A4 x.f4.length x.f4) : Kd.FK k43 W ok x [.int .i64 x.f0, .int .i64 x.f1, .int .i64 x.f2, .string x.f3, .slice A4 x.f4.length c4] := fun W2 hW => k43_mk W2 x l4 (g4 W2 hW)
def rd_T43 (xs : List S43) (i : Int) : S43 := xs.getD i.toNat z43
theorem at_T43 {w : World} {A : Option Addr} {n : Nat} {xs : List S43} (h : Kd.C k43 w A n xs) (i : Int) (h0 : 0 ≤ i) (h1 : i < n) : ∃ ad A4 c4, A = some ad ∧ w.cell? (ad.add (i.toNat * 5)) = some (.int .i64 (rd_T43 xs i).f0) ∧ w.cell? ⟨(ad.add (i.toNat * 5)).block, (ad.add (i.toNat * 5)).off + 1, none⟩ = some (.int .i64 (rd_T43 xs i).f1) ∧ w.cell? ⟨(ad.add (i.toNat * 5)).block, (ad.add (i.toNat * 5)).off + 2, none⟩ = some (.int .i64 (rd_T43 xs i).f2) ∧ w.cell? ⟨(ad.add (i.toNat * 5)).block, (ad.add (i.toNat * 5)).off + 3, none⟩ = some (.string (rd_T43 xs i).f3) ∧ w.cell? ⟨(ad.add (i.toNat * 5)).block, (ad.add (i.toNat * 5)).off + 4, none⟩ = some (.slice A4 (rd_T43 xs i).f4.length c4) ∧ (rd_T43 xs i).f4.length ≤ c4 ∧ (Kd.int .i64).C w A4 (rd_T43 xs i).f4.length (rd_T43 xs i).f4 := by
 obtain ⟨ad, c, e, _, hK, hc0⟩ := Kd.C_get h z43 i h0 h1
 have hc : ∀ j u, c[j]? = some u → w.cell? (ad.add (i.toNat * 5 + j)) = some u := hc0
 obtain ⟨A4, c4, rfl, l4, g4⟩ := k43_open hK
 exact ⟨ad, A4, c4, e, hc 0 _ rfl, by rw [← add_field _ _ 1 (by omega)]; exact hc 1 _ rfl, by rw [← add_field _ _ 2 (by omega)]; exact hc 2 _ rfl, by rw [← add_field _ _ 3 (by omega)]; exact hc 3 _ rfl, by rw [← add_field _ _ 4 (by omega)]; exact hc 4 _ rfl, l4, g4⟩
theorem at_B43 {w W : World} {A : Option Addr} {n : Nat} {xs : List S43} (h : Aside0 (Kd.C k43 w A n xs)) (i : Int) (h0 : decide (0 ≤ i) = true) (h1 : decide (i < (n : Int)) = true) (hb : Aside0 (Below w.heap.size w W)) : ∃ ad A4 c4, A = some ad ∧ (0 ≤ i) = True ∧ (i < (n : Int)) = True ∧ W.cell? (ad.add (i.toNat * 5)) = some (.int .i64 (rd_T43 xs i).f0) ∧ W.cell? ⟨(ad.add (i.toNat * 5)).block, (ad.add (i.toNat * 5)).off + 1, none⟩ = some (.int .i64 (rd_T43 xs i).f1) ∧ W.cell? ⟨(ad.add (i.toNat * 5)).block, (ad.add (i.toNat * 5)).off + 2, none⟩ = some (.int .i64 (rd_T43 xs i).f2) ∧ W.cell? ⟨(ad.add (i.toNat * 5)).block, (ad.add (i.toNat * 5)).off + 3, none⟩ = some (.string (rd_T43 xs i).f3) ∧ W.cell? ⟨(ad.add (i.toNat * 5)).block, (ad.add (i.toNat * 5)).off + 4, none⟩ = some (.slice A4 (rd_T43 xs i).f4.length c4) ∧ Aside0 ((rd_T43 xs i).f4.length ≤ c4) ∧ Aside0 ((Kd.int .i64).C w A4 (rd_T43 xs i).f4.length (rd_T43 xs i).f4) := by
 obtain ⟨ad, A4, c4, e, y0, y1, y2, y3, y4, y5, y6⟩ := at_T43 h.out i (of_decide_eq_true h0) (of_decide_eq_true h1)
 exact ⟨ad, A4, c4, e, eq_true (of_decide_eq_true h0), eq_true (of_decide_eq_true h1), Xm hb y0, Xm hb y1, Xm hb y2, Xm hb y3, Xm hb y4, ⟨y5⟩, ⟨y6⟩⟩
structure S24 where
  f0 : Int
  f1 : Int
  f2 : (List S112)
def k24 : Kd S24 := Kd.iso (Kd.pair (Kd.int .i64) (Kd.pair (Kd.int .i64) (Kd.slice 112 k112))) (fun x : S24 => (x.f0, x.f1, x.f2))
theorem k24_open {w : World} {x : S24} {cs : List Value} (h : k24.K w x cs) : ∃ A2 c2, cs = [.int .i64 x.f0, .int .i64 x.f1, .slice A2 x.f2.length c2] ∧ x.f2.length ≤ c2 ∧ k112.C w A2 x.f2.length x.f2 := by
 obtain ⟨_, _, rfl, rfl, ⟨_, _, rfl, rfl, ⟨A2, c2, rfl, l2, g2⟩⟩⟩ := h
 exact ⟨A2, c2, rfl, l2, g2⟩
structure S29 where
  f0 : Int
  f1 : Int
  f2 : (List S43)
theorem footT43_4 {w : World} {S : Nat → Prop} {A : Option Addr} {n : Nat} {xs : List S43} (h : ∀ W_, Kept w W_ S → Kd.C k43 W_ A n xs) (i : Int) (h0 : 0 ≤ i) (h1 : i < n) :
    ∃ ad A4 c4, A = some ad ∧ (∀ W_, Kept w W_ S → W_.cell? ⟨(ad.add (i.toNat * 5)).block, (ad.add (i.toNat * 5)).off + 4, none⟩ = some (.slice A4 (rd_T43 xs i).f4.length c4)) ∧ (rd_T43 xs i).f4.length ≤ c4 ∧ ∀ W_, Kept w W_ S → Kd.C (Kd.int .i64) W_ A4 (rd_T43 xs i).f4.length ((rd_T43 xs i).f4) := by
 obtain ⟨ad, A4, c4, e, hx0, hx1, hx2, hx3, hx4, l4, g4⟩ := at_T43 (h w (Kept.refl w S)) i h0 h1
 subst e
 have hb : ¬ S ad.block := XW.foot_block (by decide) h (by omega)
 have hc : ∀ W_, Kept w W_ S → W_.cell? ⟨(ad.add (i.toNat * 5)).block, (ad.add (i.toNat * 5)).off + 4, none⟩ = some (.slice A4 (rd_T43 xs i).f4.length c4) := fun W_ hW => XW.foot_cell hW (by first | (rw [add_block]; exact hb) | (show ¬ S (Addr.add _ _).block; rw [add_block]; exact hb)) hx4
 refine ⟨ad, A4, c4, rfl, hc, l4, fun W_ hW => ?_⟩
 obtain ⟨ad2, B4, d4, e2, hy0, hy1, hy2, hy3, hy4, m4, k4⟩ := at_T43 (h W_ hW) i h0 h1
 obtain rfl : ad = ad2 := by injection e2
 have hs := Option.some.inj (hy4.symm.trans (hc W_ hW))
 injection hs with ha _ _
 rw [← ha]
 exact k4
def laws_szIntS.f (l0 : List Int) (a1 : Int) : Option (Int) := if (wrap64 (a1 - (l0.length : Int))) < 0 then (some (-1)) else (some (wrap64 (a1 - (l0.length : Int))))
theorem laws_szIntS.calls (A0 : Option Addr) (c0 : Nat) (l0 : List Int) (a1 : Int) (r : Int) (w : World) (hr0 : Kd.C (Kd.int .i64) w A0 l0.length l0) (hc0 : l0.length ≤ c0) (h : laws_szIntS.f l0 a1 = some r) :
  Calls Try.prog 127 #[.slice A0 l0.length c0, .int .i64 a1] w fun e w' => e = .returned (.int .i64 r) ∧ Drawn0 w w' := by
 have HR0 := Am hr0
 have HC0 := Am hc0
 clear hr0 hc0
 have H : (if (wrap64 (a1 - (l0.length : Int))) < 0 then (some (-1)) else (some (wrap64 (a1 - (l0.length : Int))))) = some r := h
 clear h
 obtain ⟨c3b0, H⟩ | ⟨c3b0, H⟩ := Xit H
 ·obtain rfl := Xsi H
  go_enter Try.func127, Try.ntmps127
  go_wp2
  go_ret
  exact ⟨Xr, Xdr⟩
 obtain rfl := Xsi H
 go_enter Try.func127, Try.ntmps127
 go_wp2
 go_ret
 exact ⟨Xr, Xdr⟩
def laws_szNode.f (a0_0 : Int) (a0_1 : Int) (a0_2 : Int) (a0_3 : ByteArray) (l0_4 : List Int) (a1 : Int) : Option (Int) := if (wrap64 (a1 - (a0_3.size : Int))) < 0 then (some (-1)) else ((laws_szIntS.f l0_4 (wrap64 (a1 - (a0_3.size : Int)))).bind fun t10 => (if t10 < 0 then (some (-1)) else (some t10)))
theorem laws_szNode.calls (a0_0 : Int) (a0_1 : Int) (a0_2 : Int) (a0_3 : ByteArray) (A0_4 : Option Addr) (c0_4 : Nat) (l0_4 : List Int) (a1 : Int) (r : Int) (w : World) (hr0_4 : Kd.C (Kd.int .i64) w A0_4 l0_4.length l0_4) (hc0_4 : l0_4.length ≤ c0_4) (h : laws_szNode.f a0_0 a0_1 a0_2 a0_3 l0_4 a1 = some r) :
  Calls Try.prog 98 #[.agg #[.int .i64 a0_0, .int .i64 a0_1, .int .i64 a0_2, .string a0_3, .slice A0_4 l0_4.length c0_4], .int .i64 a1] w fun e w' => e = .returned (.int .i64 r) ∧ Below w.heap.size w w' := by
 have hu112 := Try.underlying112
 have HR0_4 := Am hr0_4
 have HC0_4 := Am hc0_4
 clear hr0_4 hc0_4
 have HB := Am (Below.refl w.heap.size w)
 have H : (if (wrap64 (a1 - (a0_3.size : Int))) < 0 then (some (-1)) else ((laws_szIntS.f l0_4 (wrap64 (a1 - (a0_3.size : Int)))).bind fun t11 => (if t11 < 0 then (some (-1)) else (some t11)))) = some r := h
 clear h
 have HC3 := Am H
 clear H
 go_enter Try.func98, Try.ntmps98
 go_upto_if 11 with ((with_reducible refine gate_dst (N := 2) rfl ?_); refine Xbx 2 #[.int .i64 a0_0, .int .i64 a0_1, .int .i64 a0_2, .string a0_3, .slice A0_4 l0_4.length c0_4] 112 ?_; intro gb12 hg w4 B12 GE12 hb; replace HB := Xhb hb; clear hb hg; obtain ⟨Z5_0, Z5_1, Z5_2, Z5_3, Z5_4⟩ := Xc5 B12)
 have H := HC3.out
 clear HC3
 obtain ⟨c6b0, H⟩ | ⟨c6b0, H⟩ := Xit H
 ·(first | rw [c6b0] | (simp only [i64_w, i32_w]; rw [c6b0]) | skip)
  obtain rfl := Xsi H
  go_wp2
  go_ret
  exact ⟨Xe, Xi⟩
 (first | rw [c6b0] | (simp only [i64_w, i32_w]; rw [c6b0]) | skip)
 obtain ⟨t11, A7, H⟩ := Xbi H
 try dsimp only at H
 have HC8 := Am H
 clear H
 obtain ⟨Z9_0, Z9_1, Z9_2, Z9_3, Z9_4⟩ := Xc5 B12
 go_upto_if 17 with ((with_reducible refine gate_callee (f := 127) rfl ?_); refine Xgo 15 Try.func127 #[.slice A0_4 l0_4.length c0_4, .int .i64 (wrap64 (a1 - (a0_3.size : Int)))] ?_; (with_reducible refine (laws_szIntS.calls _ _ l0_4 (wrap64 (a1 - (a0_3.size : Int))) t11 _ ?s1 ?s2 A7.out).mono ?_); (case s1 => exact Xc HR0_4); (case s2 => exact HC0_4.out); rintro e w' ⟨rfl, ⟨nd, rfl⟩⟩; refine ⟨_, rfl, ?_⟩)
 have H := HC8.out
 clear HC8
 obtain ⟨c10b0, H⟩ | ⟨c10b0, H⟩ := Xit H
 ·(first | rw [c10b0] | (simp only [i64_w, i32_w]; rw [c10b0]) | skip)
  obtain rfl := Xsi H
  go_wp2
  go_ret
  exact ⟨Xe, Xi⟩
 (first | rw [c10b0] | (simp only [i64_w, i32_w]; rw [c10b0]) | skip)
 obtain rfl := Xsi H
 go_wp2
 go_ret
 exact ⟨Xe, Xi⟩
def laws_szNodeS.l0 : Nat → List (S112) → Int → Int → Option (Int)
 | 0, _, _, _ => none
 | k + 1, x0, x1, x5 => if x5 < (x0.length : Int) then (if 0 ≤ x5 then ((laws_szNode.f ((rd_T112 x0 x5).f0) ((rd_T112 x0 x5).f1) ((rd_T112 x0 x5).f2) ((rd_T112 x0 x5).f3) ((rd_T112 x0 x5).f4) x1).bind fun t10 => (if t10 < 0 then (some (-1)) else (laws_szNodeS.l0 k x0 t10 (wrap64 (x5 + 1))))) else (none)) else (some x1)
def laws_szNodeS.f (k : Nat) (l0 : List (S112)) (a1 : Int) : Option (Int) := if (wrap64 (a1 - (l0.length : Int))) < 0 then (some (-1)) else (laws_szNodeS.l0 k l0 (wrap64 (a1 - (l0.length : Int))) 0)
theorem laws_szNodeS.calls (k : Nat) (A0 : Option Addr) (c0 : Nat) (l0 : List (S112)) (a1 : Int) (r : Int) (w : World) (hr0 : Kd.C k112 w A0 l0.length l0) (hc0 : l0.length ≤ c0) (h : laws_szNodeS.f k l0 a1 = some r) :
  Calls Try.prog 50 #[.slice A0 l0.length c0, .int .i64 a1] w fun e w' => e = .returned (.int .i64 r) ∧ Below w.heap.size w w' := by
 have hu112 := Try.underlying112
 have HR0 := Am hr0
 have HC0 := Am hc0
 clear hr0 hc0
 have HB := Am (Below.refl w.heap.size w)
 have H : (if (wrap64 (a1 - (l0.length : Int))) < 0 then (some (-1)) else (laws_szNodeS.l0 k l0 (wrap64 (a1 - (l0.length : Int))) 0)) = some r := h
 clear h
 obtain ⟨c3b0, H⟩ | ⟨c3b0, H⟩ := Xit H
 ·obtain rfl := Xsi H
  go_enter Try.func50, Try.ntmps50
  go_wp2
  go_ret
  exact ⟨Xe, Xi⟩
 have H' := Am H
 clear H
 go_enter Try.func50, Try.ntmps50
 go_wp2
 go_loopg [1, 5] k (fun kq v1 v5 w' => ∃ (x1_1 : Int) (x5_1 : Int), v1 = .int .i64 x1_1 ∧ v5 = .int .i64 x5_1 ∧ Aside0 (laws_szNodeS.l0 kq l0 x1_1 x5_1 = some r) ∧ Aside0 (kq ≤ k) ∧ Aside0 (Below w.heap.size w w'))
 case atStart => exact ⟨(wrap64 (a1 - (l0.length : Int))), (0), Xr, Xr, H', Xkr, ⟨Xi⟩⟩
 clear H'
 (try clear c3); (try clear c3b0)
 obtain ⟨x1_1, x5_1, rfl, rfl, HA, HK1, HB⟩ := hrel
 cases gk with | zero => cases HA.out | succ k1 => ?_
 have H := HA.out
 clear HA
 simp only [laws_szNodeS.l0] at H
 obtain ⟨c4b0, H⟩ | ⟨c4b0, H⟩ := Xit H
 ·obtain ⟨c5b0, H⟩ := Xid H
  obtain ⟨t10, A6, H⟩ := Xbi H
  try dsimp only at H
  have HC7 := Am H
  clear H
  obtain ⟨ad11, A103_4, c103_4, e11, p11, q11, hx11_0, hx11_1, hx11_2, hx11_3, hx11_4, HC11_4, HR11_4⟩ := at_B112 HR0 x5_1 Xa Xa HB
  cases e11
  go_upto_if 25 with ((with_reducible refine gate_callee (f := 98) rfl ?_); refine Xgo 23 Try.func98 #[.agg #[.int .i64 ((rd_T112 l0 x5_1).f0), .int .i64 ((rd_T112 l0 x5_1).f1), .int .i64 ((rd_T112 l0 x5_1).f2), .string ((rd_T112 l0 x5_1).f3), .slice A103_4 ((rd_T112 l0 x5_1).f4).length c103_4], .int .i64 x1_1] ?_; (with_reducible refine (laws_szNode.calls ((rd_T112 l0 x5_1).f0) ((rd_T112 l0 x5_1).f1) ((rd_T112 l0 x5_1).f2) ((rd_T112 l0 x5_1).f3) _ _ ((rd_T112 l0 x5_1).f4) x1_1 t10 _ ?s1 ?s2 A6.out).mono ?_); (case s1 => exact Xc HR11_4); (case s2 => exact HC11_4.out); rintro e w8 ⟨rfl, hb⟩; refine ⟨_, rfl, ?_⟩; replace HB := Xhb hb; clear hb)
  have H := HC7.out
  clear HC7
  obtain ⟨c9b0, H⟩ | ⟨c9b0, H⟩ := Xit H
  ·(first | rw [c9b0] | (simp only [i64_w, i32_w]; rw [c9b0]) | skip)
   obtain rfl := Xsi H
   go_wp2
   go_ret
   exact ⟨Xe, Xi⟩
  (first | rw [c9b0] | (simp only [i64_w, i32_w]; rw [c9b0]) | skip)
  have H' := Am H
  clear H
  go_wp2
  go_roundg k1
  case measure => have := HK1.out; omega
  case rel => exact ⟨(t10), (wrap64 (x5_1 + 1)), Xr, Xr, H', Xk1, ⟨Xi⟩⟩
 obtain rfl := Xsi H
 go_wp2
 go_ret
 exact ⟨Xe, Xi⟩
def laws_szDoc.f (k : Nat) (a0_0 : Int) (a0_1 : Int) (l0_2 : List (S112)) (a1 : Int) : Option (Int) := (laws_szNodeS.f k l0_2 a1).bind fun t10 => (if t10 < 0 then (some (-1)) else (some t10))
theorem laws_szDoc.calls (k : Nat) (a0_0 : Int) (a0_1 : Int) (A0_2 : Option Addr) (c0_2 : Nat) (l0_2 : List (S112)) (a1 : Int) (r : Int) (w : World) (hr0_2 : Kd.C k112 w A0_2 l0_2.length l0_2) (hc0_2 : l0_2.length ≤ c0_2) (h : laws_szDoc.f k a0_0 a0_1 l0_2 a1 = some r) :
  Calls Try.prog 13 #[.agg #[.int .i64 a0_0, .int .i64 a0_1, .slice A0_2 l0_2.length c0_2], .int .i64 a1] w fun e w' => e = .returned (.int .i64 r) ∧ Below w.heap.size w w' := by
 have hu24 := Try.underlying24
 have HR0_2 := Am hr0_2
 have HC0_2 := Am hc0_2
 clear hr0_2 hc0_2
 have HB := Am (Below.refl w.heap.size w)
 have H : ((laws_szNodeS.f k l0_2 a1).bind fun t10 => (if t10 < 0 then (some (-1)) else (some t10))) = some r := h
 clear h
 obtain ⟨t10, A3, H⟩ := Xbi H
 try dsimp only at H
 have HC4 := Am H
 clear H
 go_enter Try.func13, Try.ntmps13
 go_upto_if 10 with (first | ((with_reducible refine gate_dst (N := 2) rfl ?_); refine Xbx 2 #[.int .i64 a0_0, .int .i64 a0_1, .slice A0_2 l0_2.length c0_2] 24 ?_; intro gb11 hg w5 B11 GE11 hb; replace HB := Xhb hb; clear hb hg; obtain ⟨Z6_0, Z6_1, Z6_2⟩ := Xc3 B11) | ((with_reducible refine gate_callee (f := 50) rfl ?_); refine Xgo 8 Try.func50 #[.slice A0_2 l0_2.length c0_2, .int .i64 a1] ?_; (with_reducible refine (laws_szNodeS.calls k _ _ l0_2 a1 t10 _ ?s1 ?s2 A3.out).mono ?_); (case s1 => exact Xc HR0_2); (case s2 => exact HC0_2.out); rintro e w7 ⟨rfl, hb⟩; refine ⟨_, rfl, ?_⟩; replace B11 := Xbb B11 hb; replace HB := Xhb hb; clear hb))
 have H := HC4.out
 clear HC4
 obtain ⟨c8b0, H⟩ | ⟨c8b0, H⟩ := Xit H
 ·(first | rw [c8b0] | (simp only [i64_w, i32_w]; rw [c8b0]) | skip)
  obtain rfl := Xsi H
  go_wp2
  go_ret
  exact ⟨Xe, Xi⟩
 (first | rw [c8b0] | (simp only [i64_w, i32_w]; rw [c8b0]) | skip)
 obtain rfl := Xsi H
 go_wp2
 go_ret
 exact ⟨Xe, Xi⟩
def laws_toIntS.l0 : Nat → List Int → List Int → Int → Option (List Int)
 | 0, _, _, _ => none
 | k + 1, x0, x3, x4 => if x4 < (x0.length : Int) then (if 0 ≤ x4 then (if x4 < (x3.length : Int) then (laws_toIntS.l0 k x0 (x3.set (x4 : Int).toNat (rd x0 x4)) (wrap64 (x4 + 1))) else (none)) else (none)) else (some x3)
def laws_toIntS.f (k : Nat) (l0 : List Int) : Option (List Int) := if 0 ≤ (l0.length : Int) then (if ((l0.length : Int) : Int).toNat ≤ 35184372088832 then (laws_toIntS.l0 k l0 (List.replicate ((l0.length : Int) : Int).toNat 0) 0) else (none)) else (none)
theorem laws_toIntS.calls (k : Nat) (A0 : Option Addr) (c0 : Nat) (l0 : List Int) (r : List Int) (w : World) (hr0 : Kd.C (Kd.int .i64) w A0 l0.length l0) (hc0 : l0.length ≤ c0) (h : laws_toIntS.f k l0 = some r) :
  Calls Try.prog 129 #[.slice A0 l0.length c0] w fun e w' => ∃ v0_ : Value, e = .returned (v0_) ∧ Kd.R (Kd.int .i64) 3 w' w.heap.size (fun _ => True) v0_ r ∧ Below w.heap.size w w' := by
 have HR0 := Am hr0
 have HC0 := Am hc0
 clear hr0 hc0
 have HB := Am (Below.refl w.heap.size w)
 have H : (if 0 ≤ (l0.length : Int) then (if ((l0.length : Int) : Int).toNat ≤ 35184372088832 then (laws_toIntS.l0 k l0 (List.replicate ((l0.length : Int) : Int).toNat 0) 0) else (none)) else (none)) = some r := h
 clear h
 obtain ⟨c2, H⟩ | ⟨c2, H⟩ := Xiu H
 ·have c2b0 := eq_true c2
  have c2b1 : decide (0 ≤ (l0.length : Int)) = true := decide_eq_true c2
  clear c2
  obtain ⟨c3, H⟩ := Xif H
  have c3b0 := eq_true c3
  have c3b1 : decide (((l0.length : Int) : Int).toNat ≤ 35184372088832) = true := decide_eq_true c3
  clear c3
  obtain ⟨y12, hy12⟩ : ∃ y_ : List Int, y_ = (List.replicate ((l0.length : Int) : Int).toNat 0) := ⟨_, rfl⟩
  replace H : (laws_toIntS.l0 k l0 y12 0) = some r := by first | (rw [hy12]; with_reducible exact H) | (have H2_ := (Option.bind_some _ _).symm.trans H; rw [hy12]; with_reducible exact H2_) | (have H2_ := (Option.bind_some _ _).symm.trans H; with_reducible exact H2_) | with_reducible exact H | (rw [hy12]; exact H) | exact H
  have Ny12 := Am hy12
  clear hy12
  have H' := Am H
  clear H
  go_enter Try.func129, Try.ntmps129
  go_wp2_with (first | ((with_reducible refine gate_dst (N := 7) rfl ?_); refine Kd.R_make (Kd.int .i64) _ 3 rfl (N := 7) rfl 37 _ _ rfl (l0.length : Int) rfl rfl Try.underlying37 (.int .i64 0) 8 info3 rfl (by decide) (by omega) 0 (ok := fun _ => True) (okp := fun _ => True) rfl (fun _ hk => hk) trivial (Xo) (Nat.le_trans (Nat.mul_le_mul_right _ (Xo : (l0.length : Int).toNat ≤ 35184372088832)) (by omega)) (Below.refl _ _) (Nat.le_refl _) ?_; intro v108 w4 ho5 hb hg_ hnew_; clear hg_ hnew_; (first | rw [← Ny12.out] at ho5 | (simp only [Int.reduceToNat] at ho5; rw [← Ny12.out] at ho5)); have HO13 := Am (Kd.R_lower ho5 (below_size Xi)); replace HB := Xhb hb; clear hb ho5))
  go_loopg [4] k (fun kq v4 w' => ∃ (x3_1 : List Int) (x4_1 : Int), v4 = .int .i64 x4_1 ∧ Aside0 (laws_toIntS.l0 kq l0 x3_1 x4_1 = some r) ∧ Aside0 (kq ≤ k) ∧ Aside0 (Kd.R (Kd.int .i64) 3 w' w.heap.size (fun _ => True) v108 x3_1) ∧ Aside0 (Below w.heap.size w w'))
  case atStart => exact ⟨(y12), (0), Xr, H', Xkr, (Xp' HO13), ⟨Xi⟩⟩
  clear H'
  (try clear c2); (try clear c2b0); (try clear c2b1); (try clear c3); (try clear c3b0); (try clear c3b1)
  obtain ⟨x3_1, x4_1, rfl, HA, HK1, O_3, HB⟩ := hrel
  cases gk with | zero => cases HA.out | succ k1 => ?_
  have H := HA.out
  clear HA
  simp only [laws_toIntS.l0] at H
  obtain ⟨c6b0, H⟩ | ⟨c6b0, H⟩ := Xit H
  ·obtain ⟨c7b0, H⟩ := Xid H
   obtain ⟨c8b0, H⟩ := Xid H
   obtain ⟨y14, hy14⟩ : ∃ y_ : List Int, y_ = (x3_1.set (x4_1 : Int).toNat (rd l0 x4_1)) := ⟨_, rfl⟩
   replace H : (laws_toIntS.l0 k1 l0 y14 (wrap64 (x4_1 + 1))) = some r := by first | (rw [hy14]; with_reducible exact H) | (have H2_ := (Option.bind_some _ _).symm.trans H; rw [hy14]; with_reducible exact H2_) | (have H2_ := (Option.bind_some _ _).symm.trans H; with_reducible exact H2_) | with_reducible exact H | (rw [hy14]; exact H) | exact H
   have Ny14 := Am hy14
   clear hy14
   have H' := Am H
   clear H
   have p15 : 0 ≤ (x4_1 : Int) := Xo
   have q15 : x4_1 < (l0.length : Int) := Xo
   obtain ⟨ad15, e15, hx15_0⟩ := Kd.at_int HR0.out x4_1 p15 q15
   cases e15
   replace hx15_0 := Xm HB hx15_0
   replace p15 := eq_true p15
   replace q15 := eq_true q15
   have p9 : 0 ≤ (x4_1 : Int) := Xo
   have q9 : (x4_1 : Int) < ((x3_1.length : Int) : Int) := Xo
   obtain ⟨go9, co9, eo9, gb9, gl9, cl9, HG9⟩ := Kd.R_form O_3.out (by omega)
   (first | cases eo9 | (injection eo9 with ea_ en_ ec_; (first | subst ea_ | (injection ea_ with ea_; subst ea_)); subst ec_; clear en_))
   have GB9 := Am gb9
   have GG9 := Am HG9
   clear gb9 gl9 HG9
   obtain ⟨hx9_0, hf9_0⟩ := Kd.R_celln 0 O_3.out (x4_1 : Int) p9 q9
   replace p9 := eq_true p9
   replace q9 := eq_true q9
   have HP10 := Kd.R_putg O_3.out (x4_1 : Int) (rd l0 x4_1)
   go_wp2_with (first | ((with_reducible refine gate_store (t := 3) (p := 20) rfl ?_); refine store_event (t := 3) (p := 20) (v := ?vo_w11) (w1 := (wr.setCell ⟨go9, (x4_1 : Int).toNat, none⟩ (.int .i64 (rd l0 x4_1)))) ?hg ?ho ?hn ?hr ?_; (case ho => rfl); (case hg => rfl); (case hn => rfl); (case hr => first | (go_simp; done) | (go_simp; rfl)); intro w11 hw; have hg : wr.grownBy w11 (some go9) := (by rw [hw]; exact HP10.2); have hp_ : Kd.R (Kd.int .i64) 3 w11 w.heap.size (fun _ => True) (.slice (some ⟨go9, 0, none⟩) x3_1.length co9) y14 := (by rw [hw, Ny14.out]; exact HP10.1); clear HP10; replace O_3 := Am (hp_); replace HB := Am ((by rw [hw]; exact below_set (HB.out) GB9.out : Below w.heap.size w w11)); clear hg hw hp_))
   go_roundg k1
   case measure => have := HK1.out; omega
   case rel => exact ⟨(y14), (wrap64 (x4_1 + 1)), Xr, H', Xk1, (Xp' O_3), ⟨Xi⟩⟩
  obtain rfl := Xsi H
  go_wp2
  go_ret
  exact ⟨_, Xe, Xq O_3, Xi⟩
 exact absurd H (by simp)
def laws_toNode.f (k : Nat) (a0_0 : Int) (a0_1 : Int) (a0_2 : Int) (a0_3 : ByteArray) (l0_4 : List Int) : Option (Int × Int × Int × ByteArray × List Int) := (laws_toIntS.f k l0_4).bind fun t10 => (some (a0_0, a0_1, a0_2, a0_3, t10))
theorem laws_toNode.calls (k : Nat) (a0_0 : Int) (a0_1 : Int) (a0_2 : Int) (a0_3 : ByteArray) (A0_4 : Option Addr) (c0_4 : Nat) (l0_4 : List Int) (r1 : Int) (r2 : Int) (r3 : Int) (r4 : ByteArray) (r5 : List Int) (w : World) (hr0_4 : Kd.C (Kd.int .i64) w A0_4 l0_4.length l0_4) (hc0_4 : l0_4.length ≤ c0_4) (h : laws_toNode.f k a0_0 a0_1 a0_2 a0_3 l0_4 = some (r1, r2, r3, r4, r5)) :
  Calls Try.prog 101 #[.agg #[.int .i64 a0_0, .int .i64 a0_1, .int .i64 a0_2, .string a0_3, .slice A0_4 l0_4.length c0_4]] w fun e w' => ∃ v4_ : Value, e = .returned (.agg #[.int .i64 r1, .int .i64 r2, .int .i64 r3, .string r4, v4_]) ∧ Kd.R (Kd.int .i64) 3 w' w.heap.size (fun _ => True) v4_ r5 ∧ Below w.heap.size w w' := by
 have hu112 := Try.underlying112
 have hu43 := Try.underlying43
 have HR0_4 := Am hr0_4
 have HC0_4 := Am hc0_4
 clear hr0_4 hc0_4
 have HB := Am (Below.refl w.heap.size w)
 have H : ((laws_toIntS.f k l0_4).bind fun t16 => (some (a0_0, a0_1, a0_2, a0_3, t16))) = some (r1, r2, r3, r4, r5) := h
 clear h
 obtain ⟨t16, A2, H⟩ := Xbi H
 try dsimp only at H
 simp only [Option.some.injEq, Prod.mk.injEq] at H
 obtain ⟨rfl, rfl, rfl, rfl, rfl⟩ := H
 go_enter Try.func101, Try.ntmps101
 go_wp2_with (first | ((with_reducible refine gate_dst (N := 1) rfl ?_); refine Xbx 1 #[.int .i64 a0_0, .int .i64 a0_1, .int .i64 a0_2, .string a0_3, .slice A0_4 l0_4.length c0_4] 112 ?_; intro gb17 hg w3 B17 GE17 hb; replace HB := Xhb hb; clear hb hg) | ((with_reducible refine gate_dst (N := 2) rfl ?_); refine Xbx 2 #[.int .i64 0, .int .i64 0, .int .i64 0, .string (⟨#[]⟩ : ByteArray), .slice none 0 0] 43 ?_; intro gb18 hg w4 B18 GE18 hb; replace HB := Xhb hb; have NB17_18 := Xnb hg B17; have NB18_17 := Xns NB17_18; replace B17 := Xbb B17 hb; clear hb hg) | ((with_reducible refine gate_dst (N := 3) rfl ?_); refine Xbx 3 #[.int .i64 0, .int .i64 0, .int .i64 0, .string (⟨#[]⟩ : ByteArray), .slice none 0 0] 43 ?_; intro gb19 hg w5 B19 GE19 hb; replace HB := Xhb hb; have NB17_19 := Xnb hg B17; have NB19_17 := Xns NB17_19; replace B17 := Xbb B17 hb; have NB18_19 := Xnb hg B18; have NB19_18 := Xns NB18_19; replace B18 := Xbb B18 hb; clear hb hg; have hnb6 := NB17_18.out; have hnc6 := NB18_17.out; have hnb7 := NB17_19.out; have hnc7 := NB19_17.out; obtain ⟨Z8_0, Z8_1, Z8_2, Z8_3, Z8_4⟩ := Xc5 B17; obtain ⟨F8_0, F8_1, F8_2, F8_3, F8_4⟩ := Xf5 B17; have hnb9 := NB19_18.out; have hnc9 := NB18_19.out; obtain ⟨Z10_0, Z10_1, Z10_2, Z10_3, Z10_4⟩ := Xc5 B19; obtain ⟨F10_0, F10_1, F10_2, F10_3, F10_4⟩ := Xf5 B19) | ((with_reducible refine gate_callee (f := 129) rfl ?_); refine Xgo 18 Try.func129 #[.slice A0_4 l0_4.length c0_4] ?_; (with_reducible refine (laws_toIntS.calls k _ _ l0_4 t16 _ ?s1 ?s2 A2.out).mono ?_); (case s1 => exact Xc HR0_4); (case s2 => exact HC0_4.out); rintro e w11 ⟨v116, rfl, ho0, hb⟩; refine ⟨_, rfl, ?_⟩; have HO20 := Am (Kd.R_lower ho0 (below_size Xi)); replace B17 := Am (blk_below (g := gb17) (o := .cells #[.int .i64 a0_0, .int .i64 a0_1, .int .i64 a0_2, .string a0_3, .slice A0_4 l0_4.length c0_4] 112 (0, 0)) (by refine Xu ?_; refine blk_far ?_ NB17_19.out _; refine Xu ?_; refine blk_far ?_ NB17_19.out _; refine Xu ?_; refine blk_far ?_ NB17_19.out _; refine Xu ?_; refine blk_far ?_ NB17_19.out _; refine Xu ?_; exact B17.out) hb); replace B18 := Am (blk_below (g := gb18) (o := .cells #[.int .i64 0, .int .i64 0, .int .i64 0, .string (⟨#[]⟩ : ByteArray), .slice none 0 0] 43 (0, 0)) (by refine Xu ?_; refine blk_far ?_ NB18_19.out _; refine Xu ?_; refine blk_far ?_ NB18_19.out _; refine Xu ?_; refine blk_far ?_ NB18_19.out _; refine Xu ?_; refine blk_far ?_ NB18_19.out _; refine Xu ?_; exact B18.out) hb); replace B19 := Am (blk_below (g := gb19) (o := .cells #[.int .i64 a0_0, .int .i64 a0_1, .int .i64 a0_2, .string a0_3, .slice none 0 0] 43 (0, 0)) (by refine Xu ?_; refine blk_put (cs := #[.int .i64 a0_0, .int .i64 a0_1, .int .i64 a0_2, .string (⟨#[]⟩ : ByteArray), .slice none 0 0]) ?_ 3 _ rfl; refine Xu ?_; refine blk_put (cs := #[.int .i64 a0_0, .int .i64 a0_1, .int .i64 0, .string (⟨#[]⟩ : ByteArray), .slice none 0 0]) ?_ 2 _ rfl; refine Xu ?_; refine blk_put (cs := #[.int .i64 a0_0, .int .i64 0, .int .i64 0, .string (⟨#[]⟩ : ByteArray), .slice none 0 0]) ?_ 1 _ rfl; refine Xu ?_; refine blk_put (cs := #[.int .i64 0, .int .i64 0, .int .i64 0, .string (⟨#[]⟩ : ByteArray), .slice none 0 0]) ?_ 0 _ rfl; refine Xu ?_; exact B19.out) hb); replace HB := Xhb hb; clear hb; (try clear ho0); obtain ⟨Ao12, co12, eo12⟩ := Kd.R_slice HO20.out; subst eo12; obtain ⟨Z13_0, Z13_1, Z13_2, Z13_3, Z13_4⟩ := Xc5 B19; obtain ⟨F13_0, F13_1, F13_2, F13_3, F13_4⟩ := Xf5 B19; obtain ⟨Z14_0, Z14_1, Z14_2, Z14_3, Z14_4⟩ := Xc5 B18; obtain ⟨F14_0, F14_1, F14_2, F14_3, F14_4⟩ := Xf5 B18) | ((with_reducible refine gate_store (t := 43) (p := 2) rfl ?_); refine store_event (t := 43) (p := 2) (v := ?vo_w15) (w1 := ((((((w11.setCell ⟨gb19, 4, none⟩ (.slice Ao12 t16.length co12)).setCell ⟨gb18, 0, none⟩ (.int .i64 a0_0)).setCell ⟨gb18, 1, none⟩ (.int .i64 a0_1)).setCell ⟨gb18, 2, none⟩ (.int .i64 a0_2)).setCell ⟨gb18, 3, none⟩ (.string a0_3)).setCell ⟨gb18, 4, none⟩ (.slice Ao12 t16.length co12))) ?hg ?ho ?hn ?hr ?_; (case ho => rfl); (case hg => rfl); (case hn => rfl); (case hr => first | (go_simp; done) | (go_simp; rfl)); intro w15 hw; have n0_ : Aside0 (Kd.R (Kd.int .i64) 3 w15 w.heap.size (fun _ => True) (.slice Ao12 t16.length co12) t16) := ⟨(by rw [hw]; exact (by (with_reducible repeat (first | apply Kd.R_alloc | apply Kd.R_drewN | apply Kd.R_drew)); exact Kd.R_mono (Kd.R_far (p := ⟨gb18, 4, none⟩) (Kd.R_far (p := ⟨gb18, 3, none⟩) (Kd.R_far (p := ⟨gb18, 2, none⟩) (Kd.R_far (p := ⟨gb18, 1, none⟩) (Kd.R_far (p := ⟨gb18, 0, none⟩) (Kd.R_far (p := ⟨gb19, 4, none⟩) (Kd.R_types (Kd.R_types HO20.out B19.out (by decide)) B18.out (by decide)) (fun _ hk => hk.1.2) (.slice Ao12 t16.length co12)) (fun _ hk => hk.2) (.int .i64 a0_0)) (fun _ hk => hk.2) (.int .i64 a0_1)) (fun _ hk => hk.2) (.int .i64 a0_2)) (fun _ hk => hk.2) (.string a0_3)) (fun _ hk => hk.2) (.slice Ao12 t16.length co12)) (fun _ hk => trivial)))⟩; have n1_ : Aside0 (w15.heap[gb17]? = some (.cells #[.int .i64 a0_0, .int .i64 a0_1, .int .i64 a0_2, .string a0_3, .slice A0_4 l0_4.length c0_4] 112 (0, 0))) := ⟨(by rw [hw]; exact (by refine Xu ?_; refine blk_far ?_ NB17_18.out _; refine Xu ?_; refine blk_far ?_ NB17_18.out _; refine Xu ?_; refine blk_far ?_ NB17_18.out _; refine Xu ?_; refine blk_far ?_ NB17_18.out _; refine Xu ?_; refine blk_far ?_ NB17_18.out _; refine Xu ?_; refine blk_far ?_ NB17_19.out _; refine Xu ?_; exact B17.out))⟩; have n2_ : Aside0 (w15.heap[gb18]? = some (.cells #[.int .i64 a0_0, .int .i64 a0_1, .int .i64 a0_2, .string a0_3, .slice Ao12 t16.length co12] 43 (0, 0))) := ⟨(by rw [hw]; exact (by refine Xu ?_; refine blk_put (cs := #[.int .i64 a0_0, .int .i64 a0_1, .int .i64 a0_2, .string a0_3, .slice none 0 0]) ?_ 4 _ rfl; refine Xu ?_; refine blk_put (cs := #[.int .i64 a0_0, .int .i64 a0_1, .int .i64 a0_2, .string (⟨#[]⟩ : ByteArray), .slice none 0 0]) ?_ 3 _ rfl; refine Xu ?_; refine blk_put (cs := #[.int .i64 a0_0, .int .i64 a0_1, .int .i64 0, .string (⟨#[]⟩ : ByteArray), .slice none 0 0]) ?_ 2 _ rfl; refine Xu ?_; refine blk_put (cs := #[.int .i64 a0_0, .int .i64 0, .int .i64 0, .string (⟨#[]⟩ : ByteArray), .slice none 0 0]) ?_ 1 _ rfl; refine Xu ?_; refine blk_put (cs := #[.int .i64 0, .int .i64 0, .int .i64 0, .string (⟨#[]⟩ : ByteArray), .slice none 0 0]) ?_ 0 _ rfl; refine Xu ?_; refine blk_far ?_ NB18_19.out _; refine Xu ?_; exact B18.out))⟩; have n3_ : Aside0 (w15.heap[gb19]? = some (.cells #[.int .i64 a0_0, .int .i64 a0_1, .int .i64 a0_2, .string a0_3, .slice Ao12 t16.length co12] 43 (0, 0))) := ⟨(by rw [hw]; exact (by refine Xu ?_; refine blk_far ?_ NB19_18.out _; refine Xu ?_; refine blk_far ?_ NB19_18.out _; refine Xu ?_; refine blk_far ?_ NB19_18.out _; refine Xu ?_; refine blk_far ?_ NB19_18.out _; refine Xu ?_; refine blk_far ?_ NB19_18.out _; refine Xu ?_; refine blk_put (cs := #[.int .i64 a0_0, .int .i64 a0_1, .int .i64 a0_2, .string a0_3, .slice none 0 0]) ?_ 4 _ rfl; refine Xu ?_; exact B19.out))⟩; have n4_ : Aside0 (Below w.heap.size w w15) := ⟨(by rw [hw]; exact Xi)⟩; clear hw; clear HO20; clear B17; clear B18; clear B19; clear HB; have HO20 := n0_; have B17 := n1_; have B18 := n2_; have B19 := n3_; have HB := n4_; clear n0_ n1_ n2_ n3_ n4_))
 refine bodyPost_ret (results_cell_row rfl _ _ gb18 43 #[.int .i64 a0_0, .int .i64 a0_1, .int .i64 a0_2, .string a0_3, .slice Ao12 t16.length co12] (0, 0) _ rfl B18.out Try.underlying43 rfl (by kernel_rfl)) rfl ?_
 exact ⟨_, Xe, Xq HO20, Xi⟩
def laws_toNodeS.l0 : Nat → List (S112) → List (S43) → Int → Option ((List (S43)))
 | 0, _, _, _ => none
 | k + 1, x0, x3, x4 => if x4 < (x0.length : Int) then (if 0 ≤ x4 then ((laws_toNode.f k ((rd_T112 x0 x4).f0) ((rd_T112 x0 x4).f1) ((rd_T112 x0 x4).f2) ((rd_T112 x0 x4).f3) ((rd_T112 x0 x4).f4)).bind fun bt122 => (if x4 < (x3.length : Int) then (laws_toNodeS.l0 k x0 (x3.set (x4 : Int).toNat (⟨bt122.1, bt122.2.1, bt122.2.2.1, bt122.2.2.2.1, bt122.2.2.2.2⟩ : S43)) (wrap64 (x4 + 1))) else (none))) else (none)) else (some x3)
def laws_toNodeS.f (k : Nat) (l0 : List (S112)) : Option ((List (S43))) := if 0 ≤ (l0.length : Int) then (if ((l0.length : Int) : Int).toNat ≤ 4398046511104 then (laws_toNodeS.l0 k l0 (List.replicate ((l0.length : Int) : Int).toNat z43) 0) else (none)) else (none)
theorem laws_toNodeS.calls (k : Nat) (A0 : Option Addr) (c0 : Nat) (l0 : List (S112)) (r : List (S43)) (w : World) (hr0 : Kd.C k112 w A0 l0.length l0) (hc0 : l0.length ≤ c0) (h : laws_toNodeS.f k l0 = some r) :
  Calls Try.prog 53 #[.slice A0 l0.length c0] w fun e w' => ∃ v0_ : Value, e = .returned (v0_) ∧ Kd.S k43 43 w' w.heap.size (fun _ => True) v0_ r ∧ Below w.heap.size w w' := by
 have hu112 := Try.underlying112
 have hu43 := Try.underlying43
 have HR0 := Am hr0
 have HC0 := Am hc0
 clear hr0 hc0
 have HB := Am (Below.refl w.heap.size w)
 have H : (if 0 ≤ (l0.length : Int) then (if ((l0.length : Int) : Int).toNat ≤ 4398046511104 then (laws_toNodeS.l0 k l0 (List.replicate ((l0.length : Int) : Int).toNat z43) 0) else (none)) else (none)) = some r := h
 clear h
 obtain ⟨c2, H⟩ | ⟨c2, H⟩ := Xiu H
 ·have c2b0 := eq_true c2
  have c2b1 : decide (0 ≤ (l0.length : Int)) = true := decide_eq_true c2
  clear c2
  obtain ⟨c3, H⟩ := Xif H
  have c3b0 := eq_true c3
  have c3b1 : decide (((l0.length : Int) : Int).toNat ≤ 4398046511104) = true := decide_eq_true c3
  clear c3
  obtain ⟨y14, hy14⟩ : ∃ y_ : List (S43), y_ = (List.replicate ((l0.length : Int) : Int).toNat z43) := ⟨_, rfl⟩
  replace H : (laws_toNodeS.l0 k l0 y14 0) = some r := by first | (rw [hy14]; with_reducible exact H) | (have H2_ := (Option.bind_some _ _).symm.trans H; rw [hy14]; with_reducible exact H2_) | (have H2_ := (Option.bind_some _ _).symm.trans H; with_reducible exact H2_) | with_reducible exact H | (rw [hy14]; exact H) | exact H
  have Ny14 := Am hy14
  clear hy14
  have H' := Am H
  clear H
  go_enter Try.func53, Try.ntmps53
  go_wp2_with (first | ((with_reducible refine gate_dst (N := 7) rfl ?_); refine Kd.S_make k43 _ 43 rfl (N := 7) rfl 27 _ _ rfl (l0.length : Int) rfl rfl Try.underlying27 (.agg #[(.int .i64 0), (.int .i64 0), (.int .i64 0), (.string ⟨#[]⟩), (.slice none 0 0)]) 64 info43 rfl (by decide) (by omega) z43 (ok := fun _ => True) (okp := fun _ => True) (k43_mkM _ _ _ z43 (Kd.R_nil _ _ _ _ _)) (fun _ hk => hk) trivial (Xo) (Nat.le_trans (Nat.mul_le_mul_right _ (Xo : (l0.length : Int).toNat ≤ 4398046511104)) (by omega)) (Below.refl _ _) (Nat.le_refl _) ?_; intro v119 w4 ho5 hb hg_ hnew_; clear hg_ hnew_; (first | rw [← Ny14.out] at ho5 | (simp only [Int.reduceToNat] at ho5; rw [← Ny14.out] at ho5)); have HO15 := Am (Kd.S_lower ho5 (below_size Xi)); replace HB := Xhb hb; clear hb ho5))
  go_loopg [4] k (fun kq v4 w' => ∃ (x3_1 : List (S43)) (x4_1 : Int), v4 = .int .i64 x4_1 ∧ Aside0 (laws_toNodeS.l0 kq l0 x3_1 x4_1 = some r) ∧ Aside0 (kq ≤ k) ∧ Aside0 (Kd.S k43 43 w' w.heap.size (fun _ => True) v119 x3_1) ∧ Aside0 (Below w.heap.size w w'))
  case atStart => exact ⟨(y14), (0), Xr, H', Xkr, (Xp' HO15), ⟨Xi⟩⟩
  clear H'
  (try clear c2); (try clear c2b0); (try clear c2b1); (try clear c3); (try clear c3b0); (try clear c3b1)
  obtain ⟨x3_1, x4_1, rfl, HA, HK1, O_3, HB⟩ := hrel
  cases gk with | zero => cases HA.out | succ k1 => ?_
  have H := HA.out
  clear HA
  simp only [laws_toNodeS.l0] at H
  obtain ⟨c6b0, H⟩ | ⟨c6b0, H⟩ := Xit H
  ·obtain ⟨c7b0, H⟩ := Xid H
   replace H := Option.bind_eq_some_iff.mp H
   obtain ⟨⟨t16, t17, t18, t19, t20⟩, A80, H⟩ := H
   try dsimp only at H
   have A8 := Am A80
   clear A80
   obtain ⟨c9b0, H⟩ := Xid H
   obtain ⟨y21, hy21⟩ : ∃ y_ : List (S43), y_ = (x3_1.set (x4_1 : Int).toNat (⟨t16, t17, t18, t19, t20⟩ : S43)) := ⟨_, rfl⟩
   replace H : (laws_toNodeS.l0 k1 l0 y21 (wrap64 (x4_1 + 1))) = some r := by first | (rw [hy21]; with_reducible exact H) | (have H2_ := (Option.bind_some _ _).symm.trans H; rw [hy21]; with_reducible exact H2_) | (have H2_ := (Option.bind_some _ _).symm.trans H; with_reducible exact H2_) | with_reducible exact H | (rw [hy21]; exact H) | exact H
   have Ny21 := Am hy21
   clear hy21
   have H' := Am H
   clear H
   obtain ⟨ad22, A121_4, c121_4, e22, p22, q22, hx22_0, hx22_1, hx22_2, hx22_3, hx22_4, HC22_4, HR22_4⟩ := at_B112 HR0 x4_1 Xa Xa HB
   cases e22
   go_wp2_with (first | ((with_reducible refine gate_callee (f := 101) rfl ?_); refine Xgo 20 Try.func101 #[.agg #[.int .i64 ((rd_T112 l0 x4_1).f0), .int .i64 ((rd_T112 l0 x4_1).f1), .int .i64 ((rd_T112 l0 x4_1).f2), .string ((rd_T112 l0 x4_1).f3), .slice A121_4 ((rd_T112 l0 x4_1).f4).length c121_4]] ?_; (with_reducible refine (laws_toNode.calls k1 ((rd_T112 l0 x4_1).f0) ((rd_T112 l0 x4_1).f1) ((rd_T112 l0 x4_1).f2) ((rd_T112 l0 x4_1).f3) _ _ ((rd_T112 l0 x4_1).f4) t16 t17 t18 t19 t20 _ ?s1 ?s2 A8.out).mono ?_); (case s1 => exact Xc HR22_4); (case s2 => exact HC22_4.out); rintro e w11 ⟨v127, rfl, ho0, hb⟩; refine ⟨_, rfl, ?_⟩; replace O_3 := Am (Kd.S_elder' (Xq O_3) (Kd.R_base ho0) hb); have HO23 := Am (Kd.R_lower ho0 (below_size Xi)); replace HB := Xhb hb; clear hb; (try clear ho0); have p10 : 0 ≤ (x4_1 : Int) := Xo; have q10 : (x4_1 : Int) < ((x3_1.length : Int) : Int) := Xo; obtain ⟨go10, co10, eo10, gb10, gl10, cl10, HG10⟩ := Kd.S_form O_3.out (by omega); (first | cases eo10 | (injection eo10 with ea_ en_ ec_; (first | subst ea_ | (injection ea_ with ea_; subst ea_)); subst ec_; clear en_)); have GB10 := Am gb10; have GG10 := Am HG10; clear gb10 gl10 HG10; obtain ⟨_, ce10, hcl10, hM10, hcc10, hfr10, _, _⟩ := Kd.S_elem O_3.out z43 (x4_1 : Int) p10 q10; obtain ⟨ve10_4, rfl, ge10_4⟩ := k43_openM hM10; have hx10_0 : w11.cell? ⟨go10, (x4_1 : Int).toNat * 5, none⟩ = some (.int .i64 ((rd_T43 x3_1 x4_1).f0)) := hcc10 0 _ rfl; have hx10_1 : w11.cell? ⟨go10, (x4_1 : Int).toNat * 5 + 1, none⟩ = some (.int .i64 ((rd_T43 x3_1 x4_1).f1)) := hcc10 1 _ rfl; have hx10_2 : w11.cell? ⟨go10, (x4_1 : Int).toNat * 5 + 2, none⟩ = some (.int .i64 ((rd_T43 x3_1 x4_1).f2)) := hcc10 2 _ rfl; have hx10_3 : w11.cell? ⟨go10, (x4_1 : Int).toNat * 5 + 3, none⟩ = some (.string ((rd_T43 x3_1 x4_1).f3)) := hcc10 3 _ rfl; have hx10_4 : w11.cell? ⟨go10, (x4_1 : Int).toNat * 5 + 4, none⟩ = some (ve10_4) := hcc10 4 _ rfl; have hf10_0 : w11.frozen? ⟨go10, (x4_1 : Int).toNat * 5, none⟩ = false := hfr10 0; have hf10_1 : w11.frozen? ⟨go10, (x4_1 : Int).toNat * 5 + 1, none⟩ = false := hfr10 1; have hf10_2 : w11.frozen? ⟨go10, (x4_1 : Int).toNat * 5 + 2, none⟩ = false := hfr10 2; have hf10_3 : w11.frozen? ⟨go10, (x4_1 : Int).toNat * 5 + 3, none⟩ = false := hfr10 3; have hf10_4 : w11.frozen? ⟨go10, (x4_1 : Int).toNat * 5 + 4, none⟩ = false := hfr10 4; clear hcl10 hcc10 hfr10; (try clear hM10); replace p10 := eq_true p10; replace q10 := eq_true q10; have n_ := Am (Kd.S_mono (ok' := (fun k_ => some k_ ≠ (v127 : Value).ownBlock)) O_3.out (fun k_ hk => hk.2)); clear O_3; have O_3 := n_; clear n_; have HX12 := Am (show Kd.S k43 43 w11 w.heap.size (fun k_ => ((fun _ => True)) k_ ∧ ¬ ((fun k_ => some k_ = (v127 : Value).ownBlock)) k_) (.slice (some ⟨go10, 0, none⟩) x3_1.length co10) x3_1 from (by (with_reducible repeat (first | apply Kd.S_alloc | apply Kd.S_drewN | apply Kd.S_drew)); exact Kd.S_mono O_3.out (fun k_ hk => ⟨trivial, fun e_ => hk e_⟩))); obtain ⟨oki12, ce12, hcl12, hM12, hcc12, hfr12, hoki12, hH12⟩ := Kd.S_elem HX12.out z43 (x4_1 : Int) (Xo) (by have h_ : (x4_1 : Int) < ((x3_1.length : Int) : Int) := Xo; first | exact h_ | (have e_ := (Kd.S_reads' O_3.out).1; omega) | simpa using h_); obtain ⟨ve12_4, rfl, ge12_4⟩ := k43_openM hM12; have HP12 := Kd.S_seg hH12 (Xo) (by have h_ : (x4_1 : Int) < ((x3_1.length : Int) : Int) := Xo; first | exact h_ | (have e_ := (Kd.S_reads' O_3.out).1; omega) | simpa using h_) (seg := [.int .i64 t16, .int .i64 t17, .int .i64 t18, .string t19, v127]) (j := 0) (show 5 ≤ 5 from by decide) (x' := (⟨t16, t17, t18, t19, t20⟩ : S43)) (k43_mkM _ _ _ (⟨t16, t17, t18, t19, t20⟩ : S43) (Kd.R_mono (Kd.R_tight rfl (Kd.R_mono (ok' := fun k_ => ((fun _ => True)) k_ ∧ k_ ≠ go10) (Kd.R_apart' (HO23.out) (Kd.S_typed O_3.out) (by decide)) (fun k_ hk => ⟨trivial, fun e_ => (hk.2) (by rw [e_]; rfl)⟩))) (fun _ h_ => Or.inr (h_)))) (fun _ hk => hk) (fun k_ hk_ => ((Kd.R_mono (ok' := fun k_ => ((fun _ => True)) k_ ∧ k_ ≠ go10) (Kd.R_apart' (HO23.out) (Kd.S_typed O_3.out) (by decide)) (fun k_ hk => ⟨trivial, fun e_ => (hk.2) (by rw [e_]; rfl)⟩))).1 k_ hk_.symm); have hx12_0 := hcc12 0 _ rfl; (try simp only [show (k43).sz = 5 from rfl, Nat.mul_one, Nat.add_zero] at hx12_0); have hf12_0 := hfr12 0; (try simp only [show (k43).sz = 5 from rfl, Nat.mul_one, Nat.add_zero] at hf12_0); have hx12_1 := hcc12 1 _ rfl; (try simp only [show (k43).sz = 5 from rfl, Nat.mul_one, Nat.add_zero] at hx12_1); have hf12_1 := hfr12 1; (try simp only [show (k43).sz = 5 from rfl, Nat.mul_one, Nat.add_zero] at hf12_1); have hx12_2 := hcc12 2 _ rfl; (try simp only [show (k43).sz = 5 from rfl, Nat.mul_one, Nat.add_zero] at hx12_2); have hf12_2 := hfr12 2; (try simp only [show (k43).sz = 5 from rfl, Nat.mul_one, Nat.add_zero] at hf12_2); have hx12_3 := hcc12 3 _ rfl; (try simp only [show (k43).sz = 5 from rfl, Nat.mul_one, Nat.add_zero] at hx12_3); have hf12_3 := hfr12 3; (try simp only [show (k43).sz = 5 from rfl, Nat.mul_one, Nat.add_zero] at hf12_3); have hx12_4 := hcc12 4 _ rfl; (try simp only [show (k43).sz = 5 from rfl, Nat.mul_one, Nat.add_zero] at hx12_4); have hf12_4 := hfr12 4; (try simp only [show (k43).sz = 5 from rfl, Nat.mul_one, Nat.add_zero] at hf12_4); clear hcl12 hcc12 hfr12 hoki12 hH12; (try clear hM12)) | ((with_reducible refine gate_store (t := 43) (p := 21) rfl ?_); refine store_event (t := 43) (p := 21) (v := ?vo_w13) (w1 := (((((w11.setCell ⟨go10, (x4_1 : Int).toNat * 5, none⟩ (.int .i64 t16)).setCell ⟨go10, (x4_1 : Int).toNat * 5 + 1, none⟩ (.int .i64 t17)).setCell ⟨go10, (x4_1 : Int).toNat * 5 + 2, none⟩ (.int .i64 t18)).setCell ⟨go10, (x4_1 : Int).toNat * 5 + 3, none⟩ (.string t19)).setCell ⟨go10, (x4_1 : Int).toNat * 5 + 4, none⟩ (v127))) ?hg ?ho ?hn ?hr ?_; (case ho => rfl); (case hg => rfl); (case hn => rfl); (case hr => first | (go_simp; done) | (go_simp; rfl) | (obtain ⟨_, _, hz0_⟩ := Kd.R_slice HO23.out; subst hz0_; first | (go_simp; done) | (go_simp; rfl))); intro w13 hw; have hg : w11.grownBy w13 (some go10) := (by rw [hw]; exact HP12.2); have hp_ : Kd.S k43 43 w13 w.heap.size (fun _ => True) (.slice (some ⟨go10, 0, none⟩) x3_1.length co10) y21 := (by rw [hw, Ny21.out]; exact HP12.1); clear HP12; replace O_3 := Am (hp_); replace HB := Am ((by rw [hw]; exact below_set (below_set (below_set (below_set (below_set (HB.out) GB10.out) GB10.out) GB10.out) GB10.out) GB10.out : Below w.heap.size w w13)); clear HO23; clear hg hw hp_))
   go_roundg k1
   case measure => have := HK1.out; omega
   case rel => exact ⟨(y21), (wrap64 (x4_1 + 1)), Xr, H', Xk1, (Xp' O_3), ⟨Xi⟩⟩
  obtain rfl := Xsi H
  go_wp2
  go_ret
  exact ⟨_, Xe, Xq O_3, Xi⟩
 exact absurd H (by simp)
def laws_toDoc.f (k : Nat) (a0_0 : Int) (a0_1 : Int) (l0_2 : List (S112)) : Option (Int × Int × (List (S43))) := (laws_toNodeS.f k l0_2).bind fun t10 => (some (a0_0, a0_1, t10))
theorem laws_toDoc.calls (k : Nat) (a0_0 : Int) (a0_1 : Int) (A0_2 : Option Addr) (c0_2 : Nat) (l0_2 : List (S112)) (r1 : Int) (r2 : Int) (r3 : List (S43)) (w : World) (hr0_2 : Kd.C k112 w A0_2 l0_2.length l0_2) (hc0_2 : l0_2.length ≤ c0_2) (h : laws_toDoc.f k a0_0 a0_1 l0_2 = some (r1, r2, r3)) :
  Calls Try.prog 15 #[.agg #[.int .i64 a0_0, .int .i64 a0_1, .slice A0_2 l0_2.length c0_2]] w fun e w' => ∃ v2_ : Value, e = .returned (.agg #[.int .i64 r1, .int .i64 r2, v2_]) ∧ Kd.S k43 43 w' w.heap.size (fun _ => True) v2_ r3 ∧ Below w.heap.size w w' := by
 have hu24 := Try.underlying24
 have hu29 := Try.underlying29
 have HR0_2 := Am hr0_2
 have HC0_2 := Am hc0_2
 clear hr0_2 hc0_2
 have HB := Am (Below.refl w.heap.size w)
 have H : ((laws_toNodeS.f k l0_2).bind fun t16 => (some (a0_0, a0_1, t16))) = some (r1, r2, r3) := h
 clear h
 obtain ⟨t16, A2, H⟩ := Xbi H
 try dsimp only at H
 simp only [Option.some.injEq, Prod.mk.injEq] at H
 obtain ⟨rfl, rfl, rfl⟩ := H
 go_enter Try.func15, Try.ntmps15
 go_wp2_with (first | ((with_reducible refine gate_dst (N := 1) rfl ?_); refine Xbx 1 #[.int .i64 a0_0, .int .i64 a0_1, .slice A0_2 l0_2.length c0_2] 24 ?_; intro gb17 hg w3 B17 GE17 hb; replace HB := Xhb hb; clear hb hg) | ((with_reducible refine gate_dst (N := 2) rfl ?_); refine Xbx 2 #[.int .i64 0, .int .i64 0, .slice none 0 0] 29 ?_; intro gb18 hg w4 B18 GE18 hb; replace HB := Xhb hb; have NB17_18 := Xnb hg B17; have NB18_17 := Xns NB17_18; replace B17 := Xbb B17 hb; clear hb hg) | ((with_reducible refine gate_dst (N := 3) rfl ?_); refine Xbx 3 #[.int .i64 0, .int .i64 0, .slice none 0 0] 29 ?_; intro gb19 hg w5 B19 GE19 hb; replace HB := Xhb hb; have NB17_19 := Xnb hg B17; have NB19_17 := Xns NB17_19; replace B17 := Xbb B17 hb; have NB18_19 := Xnb hg B18; have NB19_18 := Xns NB18_19; replace B18 := Xbb B18 hb; clear hb hg; have hnb6 := NB17_18.out; have hnc6 := NB18_17.out; have hnb7 := NB17_19.out; have hnc7 := NB19_17.out; obtain ⟨Z8_0, Z8_1, Z8_2⟩ := Xc3 B17; obtain ⟨F8_0, F8_1, F8_2⟩ := Xf3 B17; have hnb9 := NB19_18.out; have hnc9 := NB18_19.out; obtain ⟨Z10_0, Z10_1, Z10_2⟩ := Xc3 B19; obtain ⟨F10_0, F10_1, F10_2⟩ := Xf3 B19) | ((with_reducible refine gate_callee (f := 53) rfl ?_); refine Xgo 12 Try.func53 #[.slice A0_2 l0_2.length c0_2] ?_; (with_reducible refine (laws_toNodeS.calls k _ _ l0_2 t16 _ ?s1 ?s2 A2.out).mono ?_); (case s1 => exact Xc HR0_2); (case s2 => exact HC0_2.out); rintro e w11 ⟨v134, rfl, ho0, hb⟩; refine ⟨_, rfl, ?_⟩; have HO20 := Am (Kd.S_lower ho0 (below_size Xi)); replace B17 := Am (blk_below (g := gb17) (o := .cells #[.int .i64 a0_0, .int .i64 a0_1, .slice A0_2 l0_2.length c0_2] 24 (0, 0)) (by refine Xu ?_; refine blk_far ?_ NB17_19.out _; refine Xu ?_; refine blk_far ?_ NB17_19.out _; refine Xu ?_; exact B17.out) hb); replace B18 := Am (blk_below (g := gb18) (o := .cells #[.int .i64 0, .int .i64 0, .slice none 0 0] 29 (0, 0)) (by refine Xu ?_; refine blk_far ?_ NB18_19.out _; refine Xu ?_; refine blk_far ?_ NB18_19.out _; refine Xu ?_; exact B18.out) hb); replace B19 := Am (blk_below (g := gb19) (o := .cells #[.int .i64 a0_0, .int .i64 a0_1, .slice none 0 0] 29 (0, 0)) (by refine Xu ?_; refine blk_put (cs := #[.int .i64 a0_0, .int .i64 0, .slice none 0 0]) ?_ 1 _ rfl; refine Xu ?_; refine blk_put (cs := #[.int .i64 0, .int .i64 0, .slice none 0 0]) ?_ 0 _ rfl; refine Xu ?_; exact B19.out) hb); replace HB := Xhb hb; clear hb; (try clear ho0); obtain ⟨Ao12, co12, eo12⟩ := Kd.S_slice HO20.out; subst eo12; obtain ⟨Z13_0, Z13_1, Z13_2⟩ := Xc3 B19; obtain ⟨F13_0, F13_1, F13_2⟩ := Xf3 B19; obtain ⟨Z14_0, Z14_1, Z14_2⟩ := Xc3 B18; obtain ⟨F14_0, F14_1, F14_2⟩ := Xf3 B18) | ((with_reducible refine gate_store (t := 29) (p := 2) rfl ?_); refine store_event (t := 29) (p := 2) (v := ?vo_w15) (w1 := ((((w11.setCell ⟨gb19, 2, none⟩ (.slice Ao12 t16.length co12)).setCell ⟨gb18, 0, none⟩ (.int .i64 a0_0)).setCell ⟨gb18, 1, none⟩ (.int .i64 a0_1)).setCell ⟨gb18, 2, none⟩ (.slice Ao12 t16.length co12))) ?hg ?ho ?hn ?hr ?_; (case ho => rfl); (case hg => rfl); (case hn => rfl); (case hr => first | (go_simp; done) | (go_simp; rfl)); intro w15 hw; have n0_ : Aside0 (Kd.S k43 43 w15 w.heap.size (fun _ => True) (.slice Ao12 t16.length co12) t16) := ⟨(by rw [hw]; exact (by (with_reducible repeat (first | apply Kd.S_alloc | apply Kd.S_drewN | apply Kd.S_drew)); exact Kd.S_mono (Kd.S_far (p := ⟨gb18, 2, none⟩) (Kd.S_far (p := ⟨gb18, 1, none⟩) (Kd.S_far (p := ⟨gb18, 0, none⟩) (Kd.S_far (p := ⟨gb19, 2, none⟩) (Kd.S_types (Kd.S_types HO20.out B19.out (by decide)) B18.out (by decide)) (fun _ hk => hk.1.2) (.slice Ao12 t16.length co12)) (fun _ hk => hk.2) (.int .i64 a0_0)) (fun _ hk => hk.2) (.int .i64 a0_1)) (fun _ hk => hk.2) (.slice Ao12 t16.length co12)) (fun _ hk => trivial)))⟩; have n1_ : Aside0 (w15.heap[gb17]? = some (.cells #[.int .i64 a0_0, .int .i64 a0_1, .slice A0_2 l0_2.length c0_2] 24 (0, 0))) := ⟨(by rw [hw]; exact (by refine Xu ?_; refine blk_far ?_ NB17_18.out _; refine Xu ?_; refine blk_far ?_ NB17_18.out _; refine Xu ?_; refine blk_far ?_ NB17_18.out _; refine Xu ?_; refine blk_far ?_ NB17_19.out _; refine Xu ?_; exact B17.out))⟩; have n2_ : Aside0 (w15.heap[gb18]? = some (.cells #[.int .i64 a0_0, .int .i64 a0_1, .slice Ao12 t16.length co12] 29 (0, 0))) := ⟨(by rw [hw]; exact (by refine Xu ?_; refine blk_put (cs := #[.int .i64 a0_0, .int .i64 a0_1, .slice none 0 0]) ?_ 2 _ rfl; refine Xu ?_; refine blk_put (cs := #[.int .i64 a0_0, .int .i64 0, .slice none 0 0]) ?_ 1 _ rfl; refine Xu ?_; refine blk_put (cs := #[.int .i64 0, .int .i64 0, .slice none 0 0]) ?_ 0 _ rfl; refine Xu ?_; refine blk_far ?_ NB18_19.out _; refine Xu ?_; exact B18.out))⟩; have n3_ : Aside0 (w15.heap[gb19]? = some (.cells #[.int .i64 a0_0, .int .i64 a0_1, .slice Ao12 t16.length co12] 29 (0, 0))) := ⟨(by rw [hw]; exact (by refine Xu ?_; refine blk_far ?_ NB19_18.out _; refine Xu ?_; refine blk_far ?_ NB19_18.out _; refine Xu ?_; refine blk_far ?_ NB19_18.out _; refine Xu ?_; refine blk_put (cs := #[.int .i64 a0_0, .int .i64 a0_1, .slice none 0 0]) ?_ 2 _ rfl; refine Xu ?_; exact B19.out))⟩; have n4_ : Aside0 (Below w.heap.size w w15) := ⟨(by rw [hw]; exact Xi)⟩; clear hw; clear HO20; clear B17; clear B18; clear B19; clear HB; have HO20 := n0_; have B17 := n1_; have B18 := n2_; have B19 := n3_; have HB := n4_; clear n0_ n1_ n2_ n3_ n4_))
 refine bodyPost_ret (results_cell_row rfl _ _ gb18 29 #[.int .i64 a0_0, .int .i64 a0_1, .slice Ao12 t16.length co12] (0, 0) _ rfl B18.out Try.underlying29 rfl (by kernel_rfl)) rfl ?_
 exact ⟨_, Xe, Xq HO20, Xi⟩
def laws_eqIntS.l0 : Nat → List Int → List Int → Int → Option (Bool)
 | 0, _, _, _ => none
 | k + 1, x0, x1, x5 => if x5 < (x0.length : Int) then (if 0 ≤ x5 then (if x5 < (x1.length : Int) then (if (rd x0 x5) = (rd x1 x5) then (laws_eqIntS.l0 k x0 x1 (wrap64 (x5 + 1))) else (some false)) else (none)) else (none)) else (some true)
def laws_eqIntS.f (k : Nat) (l0 : List Int) (l1 : List Int) : Option (Bool) := if (l0.length : Int) = (l1.length : Int) then (laws_eqIntS.l0 k l0 l1 0) else (some false)
theorem laws_eqIntS.calls (k : Nat) (A0 : Option Addr) (c0 : Nat) (l0 : List Int) (A1 : Option Addr) (c1 : Nat) (l1 : List Int) (r : Bool) (w : World) (hr0 : Kd.C (Kd.int .i64) w A0 l0.length l0) (hc0 : l0.length ≤ c0) (hr1 : Kd.C (Kd.int .i64) w A1 l1.length l1) (hc1 : l1.length ≤ c1) (h : laws_eqIntS.f k l0 l1 = some r) :
  Calls Try.prog 28 #[.slice A0 l0.length c0, .slice A1 l1.length c1] w fun e w' => e = .returned (.bool r) ∧ Drawn0 w w' := by
 have HR0 := Am hr0
 have HC0 := Am hc0
 clear hr0 hc0
 have HR1 := Am hr1
 have HC1 := Am hc1
 clear hr1 hc1
 have H : (if (l0.length : Int) = (l1.length : Int) then (laws_eqIntS.l0 k l0 l1 0) else (some false)) = some r := h
 clear h
 obtain ⟨c3, H⟩ | ⟨c3, H⟩ := Xiu H
 ·have c3b0 : ((l0.length : Int) == (l1.length : Int)) = true := beq_iff_eq.mpr c3
  have c3b1 : ((l0.length : Int) != (l1.length : Int)) = false := bne_eq_false_iff_eq.mpr c3
  have c3b2 : (l0.length == l1.length) = true := by first | simpa using c3 | (simp at c3 ⊢; omega)
  clear c3
  have H' := Am H
  clear H
  go_enter Try.func28, Try.ntmps28
  go_wp2
  repeat (go_quiet (fail); try go_wp2)
  go_loopg [5] k (fun kq v5 w' => ∃ (x5_1 : Int), v5 = .int .i64 x5_1 ∧ Aside0 (laws_eqIntS.l0 kq l0 l1 x5_1 = some r) ∧ Aside0 (kq ≤ k) ∧ Drawn0 w w')
  case atStart => exact ⟨(0), Xr, H', Xkr, by repeat (first | exact Drawn0.refl _ | apply Drawn0.step)⟩
  clear H'
  (try clear c1); (try clear c3); (try clear c3b0); (try clear c3b1); (try clear c3b2)
  obtain ⟨x5_1, rfl, HA, HK1, ⟨m1, rfl⟩⟩ := hrel
  cases gk with | zero => cases HA.out | succ k1 => ?_
  have H := HA.out
  clear HA
  simp only [laws_eqIntS.l0] at H
  obtain ⟨c4b0, H⟩ | ⟨c4b0, H⟩ := Xit H
  ·obtain ⟨c5b0, H⟩ := Xid H
   obtain ⟨c6b0, H⟩ := Xid H
   obtain ⟨c7, H⟩ | ⟨c7, H⟩ := Xiu H
   ·have c7b0 : ((rd l0 x5_1) == (rd l1 x5_1)) = true := beq_iff_eq.mpr c7
    have c7b1 : ((rd l0 x5_1) != (rd l1 x5_1)) = false := bne_eq_false_iff_eq.mpr c7
    clear c7
    have H' := Am H
    clear H
    have p10 : 0 ≤ (x5_1 : Int) := Xo
    have q10 : x5_1 < (l0.length : Int) := Xo
    obtain ⟨ad10, e10, hx10_0⟩ := Kd.at_int HR0.out x5_1 p10 q10
    cases e10
    replace p10 := eq_true p10
    replace q10 := eq_true q10
    have p11 : 0 ≤ (x5_1 : Int) := Xo
    have q11 : x5_1 < (l1.length : Int) := Xo
    obtain ⟨ad11, e11, hx11_0⟩ := Kd.at_int HR1.out x5_1 p11 q11
    cases e11
    replace p11 := eq_true p11
    replace q11 := eq_true q11
    go_wp2
    repeat (go_quiet (fail); try go_wp2)
    go_roundg k1
    case measure => have := HK1.out; omega
    case rel => exact ⟨(wrap64 (x5_1 + 1)), Xr, H', Xk1, by repeat (first | exact Drawn0.refl _ | apply Drawn0.step)⟩
   have c7b0 : ((rd l0 x5_1) == (rd l1 x5_1)) = false := beq_eq_false_iff_ne.mpr c7
   have c7b1 : ((rd l0 x5_1) != (rd l1 x5_1)) = true := bne_iff_ne.mpr c7
   obtain rfl := Xsi H
   have p10 : 0 ≤ (x5_1 : Int) := Xo
   have q10 : x5_1 < (l0.length : Int) := Xo
   obtain ⟨ad10, e10, hx10_0⟩ := Kd.at_int HR0.out x5_1 p10 q10
   cases e10
   replace p10 := eq_true p10
   replace q10 := eq_true q10
   have p11 : 0 ≤ (x5_1 : Int) := Xo
   have q11 : x5_1 < (l1.length : Int) := Xo
   obtain ⟨ad11, e11, hx11_0⟩ := Kd.at_int HR1.out x5_1 p11 q11
   cases e11
   replace p11 := eq_true p11
   replace q11 := eq_true q11
   go_wp2
   repeat (go_quiet (fail); try go_wp2)
   go_ret
   exact ⟨Xr, Xdr⟩
  obtain rfl := Xsi H
  go_wp2
  repeat (go_quiet (fail); try go_wp2)
  go_ret
  exact ⟨Xr, Xdr⟩
 have c3b0 : ((l0.length : Int) == (l1.length : Int)) = false := beq_eq_false_iff_ne.mpr c3
 have c3b1 : ((l0.length : Int) != (l1.length : Int)) = true := bne_iff_ne.mpr c3
 have c3b2 : (l0.length == l1.length) = false := by first | simpa using c3 | (simp at c3 ⊢; omega)
 obtain rfl := Xsi H
 go_enter Try.func28, Try.ntmps28
 go_wp2
 repeat (go_quiet (fail); try go_wp2)
 go_ret
 exact ⟨Xr, Xdr⟩
def laws_eqNode.f (k : Nat) (a0_0 : Int) (a0_1 : Int) (a0_2 : Int) (a0_3 : ByteArray) (l0_4 : List Int) (a1_0 : Int) (a1_1 : Int) (a1_2 : Int) (a1_3 : ByteArray) (l1_4 : List Int) : Option (Bool) := if a0_0 = a1_0 then (if a0_1 = a1_1 then (if a0_2 = a1_2 then (if a0_3.toList = a1_3.toList then ((laws_eqIntS.f k l0_4 l1_4).bind fun t10 => (if t10 = true then (some true) else (some false))) else (some false)) else (some false)) else (some false)) else (some false)
theorem laws_eqNode.calls (k : Nat) (a0_0 : Int) (a0_1 : Int) (a0_2 : Int) (a0_3 : ByteArray) (A0_4 : Option Addr) (c0_4 : Nat) (l0_4 : List Int) (a1_0 : Int) (a1_1 : Int) (a1_2 : Int) (a1_3 : ByteArray) (A1_4 : Option Addr) (c1_4 : Nat) (l1_4 : List Int) (r : Bool) (w : World) (hr0_4 : Kd.C (Kd.int .i64) w A0_4 l0_4.length l0_4) (hc0_4 : l0_4.length ≤ c0_4) (hr1_4 : Kd.C (Kd.int .i64) w A1_4 l1_4.length l1_4) (hc1_4 : l1_4.length ≤ c1_4) (h : laws_eqNode.f k a0_0 a0_1 a0_2 a0_3 l0_4 a1_0 a1_1 a1_2 a1_3 l1_4 = some r) :
  Calls Try.prog 33 #[.agg #[.int .i64 a0_0, .int .i64 a0_1, .int .i64 a0_2, .string a0_3, .slice A0_4 l0_4.length c0_4], .agg #[.int .i64 a1_0, .int .i64 a1_1, .int .i64 a1_2, .string a1_3, .slice A1_4 l1_4.length c1_4]] w fun e w' => e = .returned (.bool r) ∧ Below w.heap.size w w' := by
 have hu43 := Try.underlying43
 have HR0_4 := Am hr0_4
 have HC0_4 := Am hc0_4
 clear hr0_4 hc0_4
 have HR1_4 := Am hr1_4
 have HC1_4 := Am hc1_4
 clear hr1_4 hc1_4
 have HB := Am (Below.refl w.heap.size w)
 have H : (if a0_0 = a1_0 then (if a0_1 = a1_1 then (if a0_2 = a1_2 then (if a0_3.toList = a1_3.toList then ((laws_eqIntS.f k l0_4 l1_4).bind fun t28 => (if t28 = true then (some true) else (some false))) else (some false)) else (some false)) else (some false)) else (some false)) = some r := h
 clear h
 have HC3 := Am H
 clear H
 go_enter Try.func33, Try.ntmps33
 go_upto_if 9 with (first | ((with_reducible refine gate_dst (N := 2) rfl ?_); refine Xbx 2 #[.int .i64 a0_0, .int .i64 a0_1, .int .i64 a0_2, .string a0_3, .slice A0_4 l0_4.length c0_4] 43 ?_; intro gb29 hg w4 B29 GE29 hb; replace HB := Xhb hb; clear hb hg) | ((with_reducible refine gate_dst (N := 3) rfl ?_); refine Xbx 3 #[.int .i64 a1_0, .int .i64 a1_1, .int .i64 a1_2, .string a1_3, .slice A1_4 l1_4.length c1_4] 43 ?_; intro gb30 hg w5 B30 GE30 hb; replace HB := Xhb hb; have NB29_30 := Xnb hg B29; have NB30_29 := Xns NB29_30; replace B29 := Xbb B29 hb; clear hb hg; have hnb6 := NB29_30.out; have hnc6 := NB30_29.out; obtain ⟨Z7_0, Z7_1, Z7_2, Z7_3, Z7_4⟩ := Xc5 B29; obtain ⟨Z8_0, Z8_1, Z8_2, Z8_3, Z8_4⟩ := Xc5 B30))
 have H := HC3.out
 clear HC3
 obtain ⟨c9, H⟩ | ⟨c9, H⟩ := Xiu H
 ·have c9b0 : (a0_0 == a1_0) = true := beq_iff_eq.mpr c9
  have c9b1 : (a0_0 != a1_0) = false := bne_eq_false_iff_eq.mpr c9
  clear c9
  (first | rw [c9b0] | (simp only [i64_w, i32_w]; rw [c9b0]) | skip)
  obtain ⟨c10, H⟩ | ⟨c10, H⟩ := Xiu H
  ·have c10b0 : (a0_1 == a1_1) = true := beq_iff_eq.mpr c10
   have c10b1 : (a0_1 != a1_1) = false := bne_eq_false_iff_eq.mpr c10
   clear c10
   obtain ⟨c11, H⟩ | ⟨c11, H⟩ := Xiu H
   ·have c11b0 : (a0_2 == a1_2) = true := beq_iff_eq.mpr c11
    have c11b1 : (a0_2 != a1_2) = false := bne_eq_false_iff_eq.mpr c11
    clear c11
    obtain ⟨c12, H⟩ | ⟨c12, H⟩ := Xiu H
    ·have c12b0 : (a0_3.toList == a1_3.toList) = true := beq_iff_eq.mpr c12
     have c12b1 : (a0_3.toList != a1_3.toList) = false := bne_eq_false_iff_eq.mpr c12
     clear c12
     obtain ⟨t28, A13, H⟩ := Xbi H
     try dsimp only at H
     have HC14 := Am H
     clear H
     have hnb15 := NB29_30.out
     have hnc15 := NB30_29.out
     obtain ⟨Z16_0, Z16_1, Z16_2, Z16_3, Z16_4⟩ := Xc5 B29
     obtain ⟨Z17_0, Z17_1, Z17_2, Z17_3, Z17_4⟩ := Xc5 B30
     go_upto_if 30 with ((with_reducible refine gate_callee (f := 28) rfl ?_); refine Xgo 29 Try.func28 #[.slice A0_4 l0_4.length c0_4, .slice A1_4 l1_4.length c1_4] ?_; (with_reducible refine (laws_eqIntS.calls k _ _ l0_4 _ _ l1_4 t28 _ ?s1 ?s2 ?s3 ?s4 A13.out).mono ?_); (case s1 => exact Xc HR0_4); (case s2 => exact HC0_4.out); (case s3 => exact Xc HR1_4); (case s4 => exact HC1_4.out); rintro e w' ⟨rfl, ⟨nd, rfl⟩⟩; refine ⟨_, rfl, ?_⟩)
     have H := HC14.out
     clear HC14
     by_cases c18 : t28 = true
     ·subst c18
      try rw [if_pos rfl] at H
      obtain rfl := Xsi H
      go_wp2
      go_ret
      exact ⟨Xe, Xi⟩
     replace c18 := Xbf c18
     subst c18
     try rw [if_neg Xft] at H
     obtain rfl := Xsi H
     go_wp2
     go_ret
     exact ⟨Xe, Xi⟩
    have c12b0 : (a0_3.toList == a1_3.toList) = false := beq_eq_false_iff_ne.mpr c12
    have c12b1 : (a0_3.toList != a1_3.toList) = true := bne_iff_ne.mpr c12
    obtain rfl := Xsi H
    have hnb19 := NB29_30.out
    have hnc19 := NB30_29.out
    obtain ⟨Z20_0, Z20_1, Z20_2, Z20_3, Z20_4⟩ := Xc5 B29
    obtain ⟨Z21_0, Z21_1, Z21_2, Z21_3, Z21_4⟩ := Xc5 B30
    go_wp2
    go_ret
    exact ⟨Xe, Xi⟩
   have c11b0 : (a0_2 == a1_2) = false := beq_eq_false_iff_ne.mpr c11
   have c11b1 : (a0_2 != a1_2) = true := bne_iff_ne.mpr c11
   obtain rfl := Xsi H
   have hnb22 := NB29_30.out
   have hnc22 := NB30_29.out
   obtain ⟨Z23_0, Z23_1, Z23_2, Z23_3, Z23_4⟩ := Xc5 B29
   obtain ⟨Z24_0, Z24_1, Z24_2, Z24_3, Z24_4⟩ := Xc5 B30
   go_wp2
   go_ret
   exact ⟨Xe, Xi⟩
  have c10b0 : (a0_1 == a1_1) = false := beq_eq_false_iff_ne.mpr c10
  have c10b1 : (a0_1 != a1_1) = true := bne_iff_ne.mpr c10
  obtain rfl := Xsi H
  have hnb25 := NB29_30.out
  have hnc25 := NB30_29.out
  obtain ⟨Z26_0, Z26_1, Z26_2, Z26_3, Z26_4⟩ := Xc5 B29
  obtain ⟨Z27_0, Z27_1, Z27_2, Z27_3, Z27_4⟩ := Xc5 B30
  go_wp2
  go_ret
  exact ⟨Xe, Xi⟩
 have c9b0 : (a0_0 == a1_0) = false := beq_eq_false_iff_ne.mpr c9
 have c9b1 : (a0_0 != a1_0) = true := bne_iff_ne.mpr c9
 (first | rw [c9b0] | (simp only [i64_w, i32_w]; rw [c9b0]) | skip)
 obtain rfl := Xsi H
 go_wp2
 go_ret
 exact ⟨Xe, Xi⟩
def laws_eqNodeS.l0 : Nat → List (S43) → List (S43) → Int → Option (Bool)
 | 0, _, _, _ => none
 | k + 1, x0, x1, x5 => if x5 < (x0.length : Int) then (if 0 ≤ x5 then (if x5 < (x1.length : Int) then ((laws_eqNode.f k ((rd_T43 x0 x5).f0) ((rd_T43 x0 x5).f1) ((rd_T43 x0 x5).f2) ((rd_T43 x0 x5).f3) ((rd_T43 x0 x5).f4) ((rd_T43 x1 x5).f0) ((rd_T43 x1 x5).f1) ((rd_T43 x1 x5).f2) ((rd_T43 x1 x5).f3) ((rd_T43 x1 x5).f4)).bind fun t10 => (if t10 = true then (laws_eqNodeS.l0 k x0 x1 (wrap64 (x5 + 1))) else (some false))) else (none)) else (none)) else (some true)
def laws_eqNodeS.f (k : Nat) (l0 : List (S43)) (l1 : List (S43)) : Option (Bool) := if (l0.length : Int) = (l1.length : Int) then (laws_eqNodeS.l0 k l0 l1 0) else (some false)
def laws_eqNodeS.T6 : Bool × List (List Nat × List Nat) := (true, [([], []), ([], []), ([0, 1], [0, 1]), ([2], [2]), ([], []), ([], []), ([4, 5], [4, 5]), ([6], [6]), ([3, 7], [3, 7]), ([8], [8])])
def laws_eqNodeS.B6 : List Nat := [0, 0, 3, 7, 0, 0, 48, 112, 255, 511]
theorem laws_eqNodeS.tab6 : rtab .any (opsOf Try.f55 6) = laws_eqNodeS.T6 := by kernel_rfl
theorem laws_eqNodeS.bits6 : waitsOk laws_eqNodeS.T6.2 laws_eqNodeS.B6 = true := by kernel_rfl
theorem laws_eqNodeS.calls (k : Nat) (A0 : Option Addr) (c0 : Nat) (l0 : List (S43)) (A1 : Option Addr) (c1 : Nat) (l1 : List (S43)) (r : Bool) (w : World) (hr0 : Kd.C k43 w A0 l0.length l0) (hc0 : l0.length ≤ c0) (hr1 : Kd.C k43 w A1 l1.length l1) (hc1 : l1.length ≤ c1) (h : laws_eqNodeS.f k l0 l1 = some r) :
  Calls Try.prog 55 #[.slice A0 l0.length c0, .slice A1 l1.length c1] w fun e w' => e = .returned (.bool r) ∧ Below w.heap.size w w' := by
 have hu43 := Try.underlying43
 have HR0 := Am hr0
 have HC0 := Am hc0
 clear hr0 hc0
 have HR1 := Am hr1
 have HC1 := Am hc1
 clear hr1 hc1
 have HB := Am (Below.refl w.heap.size w)
 have H : (if (l0.length : Int) = (l1.length : Int) then (laws_eqNodeS.l0 k l0 l1 0) else (some false)) = some r := h
 clear h
 obtain ⟨c3, H⟩ | ⟨c3, H⟩ := Xiu H
 ·have c3b0 : ((l0.length : Int) == (l1.length : Int)) = true := beq_iff_eq.mpr c3
  have c3b1 : ((l0.length : Int) != (l1.length : Int)) = false := bne_eq_false_iff_eq.mpr c3
  have c3b2 : (l0.length == l1.length) = true := by first | simpa using c3 | (simp at c3 ⊢; omega)
  clear c3
  have H' := Am H
  clear H
  go_enter Try.func55, Try.ntmps55
  go_wp2
  go_loopg [5] k (fun kq v5 w' => ∃ (x5_1 : Int), v5 = .int .i64 x5_1 ∧ Aside0 (laws_eqNodeS.l0 kq l0 l1 x5_1 = some r) ∧ Aside0 (kq ≤ k) ∧ Aside0 (Below w.heap.size w w'))
  case atStart => exact ⟨(0), Xr, H', Xkr, ⟨Xi⟩⟩
  clear H'
  (try clear c1); (try clear c3); (try clear c3b0); (try clear c3b1); (try clear c3b2)
  obtain ⟨x5_1, rfl, HA, HK1, HB⟩ := hrel
  cases gk with | zero => cases HA.out | succ k1 => ?_
  have H := HA.out
  clear HA
  simp only [laws_eqNodeS.l0] at H
  obtain ⟨c4b0, H⟩ | ⟨c4b0, H⟩ := Xit H
  ·obtain ⟨c5b0, H⟩ := Xid H
   obtain ⟨c6b0, H⟩ := Xid H
   obtain ⟨t12, A7, H⟩ := Xbi H
   try dsimp only at H
   have HC8 := Am H
   clear H
   try go_wp2_with (fail)
   replace HB := Xhd HB
   have p13 : 0 ≤ (x5_1 : Int) := Xo
   have q13 : x5_1 < (l0.length : Int) := Xo
   obtain ⟨ad13, A141_4, c141_4, e13, hx13_0, hx13_1, hx13_2, hx13_3, hx13_4, hl141_4, hi141_4⟩ := at_T43 HR0.out x5_1 p13 q13
   have hw141_4 := hx13_4
   have hw141_3 := hx13_3
   have hw141_2 := hx13_2
   have hw141_1 := hx13_1
   have hw141_0 := hx13_0
   cases e13
   replace hx13_0 := Xm HB hx13_0
   replace hx13_1 := Xm HB hx13_1
   replace hx13_2 := Xm HB hx13_2
   replace hx13_3 := Xm HB hx13_3
   replace hx13_4 := Xm HB hx13_4
   have HR13_4 := Am hi141_4
   have HC13_4 := Am hl141_4
   clear hi141_4 hl141_4
   replace p13 := eq_true p13
   replace q13 := eq_true q13
   have p14 : 0 ≤ (x5_1 : Int) := Xo
   have q14 : x5_1 < (l1.length : Int) := Xo
   obtain ⟨ad14, A142_4, c142_4, e14, hx14_0, hx14_1, hx14_2, hx14_3, hx14_4, hl142_4, hi142_4⟩ := at_T43 HR1.out x5_1 p14 q14
   have hw142_4 := hx14_4
   have hw142_3 := hx14_3
   have hw142_2 := hx14_2
   have hw142_1 := hx14_1
   have hw142_0 := hx14_0
   cases e14
   replace hx14_0 := Xm HB hx14_0
   replace hx14_1 := Xm HB hx14_1
   replace hx14_2 := Xm HB hx14_2
   replace hx14_3 := Xm HB hx14_3
   replace hx14_4 := Xm HB hx14_4
   have HR14_4 := Am hi142_4
   have HC14_4 := Am hl142_4
   clear hi142_4 hl142_4
   replace p14 := eq_true p14
   replace q14 := eq_true q14
   refine Sx 10 (fun w' => w'.cell? (ad13.add ((x5_1).toNat * 5)) = some (.int .i64 ((rd_T43 l0 x5_1).f0)) ∧ w'.cell? ⟨(ad13.add ((x5_1).toNat * 5)).block, (ad13.add ((x5_1).toNat * 5)).off + 1, none⟩ = some (.int .i64 ((rd_T43 l0 x5_1).f1)) ∧ w'.cell? ⟨(ad13.add ((x5_1).toNat * 5)).block, (ad13.add ((x5_1).toNat * 5)).off + 2, none⟩ = some (.int .i64 ((rd_T43 l0 x5_1).f2)) ∧ w'.cell? ⟨(ad13.add ((x5_1).toNat * 5)).block, (ad13.add ((x5_1).toNat * 5)).off + 3, none⟩ = some (.string ((rd_T43 l0 x5_1).f3)) ∧ w'.cell? ⟨(ad13.add ((x5_1).toNat * 5)).block, (ad13.add ((x5_1).toNat * 5)).off + 4, none⟩ = some (.slice A141_4 ((rd_T43 l0 x5_1).f4).length c141_4) ∧ w'.cell? (ad14.add ((x5_1).toNat * 5)) = some (.int .i64 ((rd_T43 l1 x5_1).f0)) ∧ w'.cell? ⟨(ad14.add ((x5_1).toNat * 5)).block, (ad14.add ((x5_1).toNat * 5)).off + 1, none⟩ = some (.int .i64 ((rd_T43 l1 x5_1).f1)) ∧ w'.cell? ⟨(ad14.add ((x5_1).toNat * 5)).block, (ad14.add ((x5_1).toNat * 5)).off + 2, none⟩ = some (.int .i64 ((rd_T43 l1 x5_1).f2)) ∧ w'.cell? ⟨(ad14.add ((x5_1).toNat * 5)).block, (ad14.add ((x5_1).toNat * 5)).off + 3, none⟩ = some (.string ((rd_T43 l1 x5_1).f3)) ∧ w'.cell? ⟨(ad14.add ((x5_1).toNat * 5)).block, (ad14.add ((x5_1).toNat * 5)).off + 4, none⟩ = some (.slice A142_4 ((rd_T43 l1 x5_1).f4).length c142_4)) ⟨Xn hw141_0, Xn hw141_1, Xn hw141_2, Xn hw141_3, Xn hw141_4, Xn hw142_0, Xn hw142_1, Xn hw142_2, Xn hw142_3, Xn hw142_4⟩ (fun hHeld => ?_); refine with_tabW laws_eqNodeS.tab6 laws_eqNodeS.bits6 (fun HT_ HW_ => ?_)
   generalize wr.drew = w9 at HB HR13_4 HR14_4 hx13_0 hx13_1 hx13_2 hx13_3 hx13_4 hx14_0 hx14_1 hx14_2 hx14_3 hx14_4 hHeld ⊢
   refine Pu 0 17 10 1 ?_
   refine Pu 1 18 10 3 ?_
   refine Pu 2 19 10 7 ?_
   refine Pu 4 21 10 23 ?_
   refine Pu 5 22 10 55 ?_
   refine Pu 6 23 10 119 ?_
   refine Ta 3 20 10 127 ?_
   refine Ta 7 24 10 255 ?_
   refine On 8 25 10 511 (fun K hK => ?_)
   refine Gs Try.func33 #[.agg #[.int .i64 ((rd_T43 l0 x5_1).f0), .int .i64 ((rd_T43 l0 x5_1).f1), .int .i64 ((rd_T43 l0 x5_1).f2), .string ((rd_T43 l0 x5_1).f3), .slice A141_4 ((rd_T43 l0 x5_1).f4).length c141_4], .agg #[.int .i64 ((rd_T43 l1 x5_1).f0), .int .i64 ((rd_T43 l1 x5_1).f1), .int .i64 ((rd_T43 l1 x5_1).f2), .string ((rd_T43 l1 x5_1).f3), .slice A142_4 ((rd_T43 l1 x5_1).f4).length c142_4]] ?_
   with_reducible refine (laws_eqNode.calls k1 ((rd_T43 l0 x5_1).f0) ((rd_T43 l0 x5_1).f1) ((rd_T43 l0 x5_1).f2) ((rd_T43 l0 x5_1).f3) _ _ ((rd_T43 l0 x5_1).f4) ((rd_T43 l1 x5_1).f0) ((rd_T43 l1 x5_1).f1) ((rd_T43 l1 x5_1).f2) ((rd_T43 l1 x5_1).f3) _ _ ((rd_T43 l1 x5_1).f4) t12 _ ?s1 ?s2 ?s3 ?s4 A7.out).mono ?_
   (case s1 => exact Xc HR13_4)
   (case s2 => exact HC13_4.out)
   (case s3 => exact Xc HR14_4)
   (case s4 => exact HC14_4.out)
   rintro e w10 ⟨rfl, hb⟩
   refine ⟨_, rfl, ?_⟩
   replace HB := Xhb hb
   try clear hb
   try clear hb2
   try clear hk
   try clear hi
   refine hK.out _ _ ⟨Xn hw141_0, Xn hw141_1, Xn hw141_2, Xn hw141_3, Xn hw141_4, Xn hw142_0, Xn hw142_1, Xn hw142_2, Xn hw142_3, Xn hw142_4⟩ (fun hHeld => ?_)
   clear hK K
   refine Xno ?_
   refine Pu 9 26 10 1023 ?_
   refine Dn ?_
   go_upto_if 26 with (fail)
   have H := HC8.out
   clear HC8
   by_cases c11 : t12 = true
   ·subst c11
    try rw [if_pos rfl] at H
    have H' := Am H
    clear H
    go_wp2
    go_roundg k1
    case measure => have := HK1.out; omega
    case rel => exact ⟨(wrap64 (x5_1 + 1)), Xr, H', Xk1, ⟨Xi⟩⟩
   replace c11 := Xbf c11
   subst c11
   try rw [if_neg Xft] at H
   obtain rfl := Xsi H
   go_wp2
   go_ret
   exact ⟨Xe, Xi⟩
  obtain rfl := Xsi H
  go_wp2
  go_ret
  exact ⟨Xe, Xi⟩
 have c3b0 : ((l0.length : Int) == (l1.length : Int)) = false := beq_eq_false_iff_ne.mpr c3
 have c3b1 : ((l0.length : Int) != (l1.length : Int)) = true := bne_iff_ne.mpr c3
 have c3b2 : (l0.length == l1.length) = false := by first | simpa using c3 | (simp at c3 ⊢; omega)
 obtain rfl := Xsi H
 go_enter Try.func55, Try.ntmps55
 go_wp2
 go_ret
 exact ⟨Xe, Xi⟩
def laws_eqDoc.f (k : Nat) (a0_0 : Int) (a0_1 : Int) (l0_2 : List (S43)) (a1_0 : Int) (a1_1 : Int) (l1_2 : List (S43)) : Option (Bool) := if a0_0 = a1_0 then (if a0_1 = a1_1 then ((laws_eqNodeS.f k l0_2 l1_2).bind fun t10 => (if t10 = true then (some true) else (some false))) else (some false)) else (some false)
theorem laws_eqDoc.calls (k : Nat) (a0_0 : Int) (a0_1 : Int) (A0_2 : Option Addr) (c0_2 : Nat) (l0_2 : List (S43)) (a1_0 : Int) (a1_1 : Int) (A1_2 : Option Addr) (c1_2 : Nat) (l1_2 : List (S43)) (r : Bool) (w : World) (hr0_2 : Kd.C k43 w A0_2 l0_2.length l0_2) (hc0_2 : l0_2.length ≤ c0_2) (hr1_2 : Kd.C k43 w A1_2 l1_2.length l1_2) (hc1_2 : l1_2.length ≤ c1_2) (h : laws_eqDoc.f k a0_0 a0_1 l0_2 a1_0 a1_1 l1_2 = some r) :
  Calls Try.prog 17 #[.agg #[.int .i64 a0_0, .int .i64 a0_1, .slice A0_2 l0_2.length c0_2], .agg #[.int .i64 a1_0, .int .i64 a1_1, .slice A1_2 l1_2.length c1_2]] w fun e w' => e = .returned (.bool r) ∧ Below w.heap.size w w' := by
 have hu29 := Try.underlying29
 have HR0_2 := Am hr0_2
 have HC0_2 := Am hc0_2
 clear hr0_2 hc0_2
 have HR1_2 := Am hr1_2
 have HC1_2 := Am hc1_2
 clear hr1_2 hc1_2
 have HB := Am (Below.refl w.heap.size w)
 have H : (if a0_0 = a1_0 then (if a0_1 = a1_1 then ((laws_eqNodeS.f k l0_2 l1_2).bind fun t21 => (if t21 = true then (some true) else (some false))) else (some false)) else (some false)) = some r := h
 clear h
 have HC3 := Am H
 clear H
 go_enter Try.func17, Try.ntmps17
 go_upto_if 9 with (first | ((with_reducible refine gate_dst (N := 2) rfl ?_); refine Xbx 2 #[.int .i64 a0_0, .int .i64 a0_1, .slice A0_2 l0_2.length c0_2] 29 ?_; intro gb22 hg w4 B22 GE22 hb; replace HB := Xhb hb; clear hb hg) | ((with_reducible refine gate_dst (N := 3) rfl ?_); refine Xbx 3 #[.int .i64 a1_0, .int .i64 a1_1, .slice A1_2 l1_2.length c1_2] 29 ?_; intro gb23 hg w5 B23 GE23 hb; replace HB := Xhb hb; have NB22_23 := Xnb hg B22; have NB23_22 := Xns NB22_23; replace B22 := Xbb B22 hb; clear hb hg; have hnb6 := NB22_23.out; have hnc6 := NB23_22.out; obtain ⟨Z7_0, Z7_1, Z7_2⟩ := Xc3 B22; obtain ⟨Z8_0, Z8_1, Z8_2⟩ := Xc3 B23))
 have H := HC3.out
 clear HC3
 obtain ⟨c9, H⟩ | ⟨c9, H⟩ := Xiu H
 ·have c9b0 : (a0_0 == a1_0) = true := beq_iff_eq.mpr c9
  have c9b1 : (a0_0 != a1_0) = false := bne_eq_false_iff_eq.mpr c9
  clear c9
  (first | rw [c9b0] | (simp only [i64_w, i32_w]; rw [c9b0]) | skip)
  obtain ⟨c10, H⟩ | ⟨c10, H⟩ := Xiu H
  ·have c10b0 : (a0_1 == a1_1) = true := beq_iff_eq.mpr c10
   have c10b1 : (a0_1 != a1_1) = false := bne_eq_false_iff_eq.mpr c10
   clear c10
   obtain ⟨t21, A11, H⟩ := Xbi H
   try dsimp only at H
   have HC12 := Am H
   clear H
   have hnb13 := NB22_23.out
   have hnc13 := NB23_22.out
   obtain ⟨Z14_0, Z14_1, Z14_2⟩ := Xc3 B22
   obtain ⟨Z15_0, Z15_1, Z15_2⟩ := Xc3 B23
   go_upto_if 20 with ((with_reducible refine gate_callee (f := 55) rfl ?_); refine Xgo 19 Try.func55 #[.slice A0_2 l0_2.length c0_2, .slice A1_2 l1_2.length c1_2] ?_; (with_reducible refine (laws_eqNodeS.calls k _ _ l0_2 _ _ l1_2 t21 _ ?s1 ?s2 ?s3 ?s4 A11.out).mono ?_); (case s1 => exact Xc HR0_2); (case s2 => exact HC0_2.out); (case s3 => exact Xc HR1_2); (case s4 => exact HC1_2.out); rintro e w16 ⟨rfl, hb⟩; refine ⟨_, rfl, ?_⟩; replace B22 := Xbb B22 hb; replace B23 := Xbb B23 hb; replace HB := Xhb hb; clear hb)
   have H := HC12.out
   clear HC12
   by_cases c17 : t21 = true
   ·subst c17
    try rw [if_pos rfl] at H
    obtain rfl := Xsi H
    go_wp2
    go_ret
    exact ⟨Xe, Xi⟩
   replace c17 := Xbf c17
   subst c17
   try rw [if_neg Xft] at H
   obtain rfl := Xsi H
   go_wp2
   go_ret
   exact ⟨Xe, Xi⟩
  have c10b0 : (a0_1 == a1_1) = false := beq_eq_false_iff_ne.mpr c10
  have c10b1 : (a0_1 != a1_1) = true := bne_iff_ne.mpr c10
  obtain rfl := Xsi H
  have hnb18 := NB22_23.out
  have hnc18 := NB23_22.out
  obtain ⟨Z19_0, Z19_1, Z19_2⟩ := Xc3 B22
  obtain ⟨Z20_0, Z20_1, Z20_2⟩ := Xc3 B23
  go_wp2
  go_ret
  exact ⟨Xe, Xi⟩
 have c9b0 : (a0_0 == a1_0) = false := beq_eq_false_iff_ne.mpr c9
 have c9b1 : (a0_0 != a1_0) = true := bne_iff_ne.mpr c9
 (first | rw [c9b0] | (simp only [i64_w, i32_w]; rw [c9b0]) | skip)
 obtain rfl := Xsi H
 go_wp2
 go_ret
 exact ⟨Xe, Xi⟩
def laws_markIntS.l0 : Nat → List Int → Int → Int → Option (Int × List Int)
 | 0, _, _, _ => none
 | k + 1, x0, x1, x5 => if x5 < (x0.length : Int) then (if 0 ≤ x5 then (laws_markIntS.l0 k (x0.set (x5 : Int).toNat x1) (wrap64 (x1 + 1)) (wrap64 (x5 + 1))) else (none)) else (some (x1, x0))
def laws_markIntS.f (k : Nat) (l0 : List Int) (a1 : Int) : Option (Int × List Int) := laws_markIntS.l0 k l0 a1 0
theorem laws_markIntS.calls (k : Nat) (P0_ : Nat → Prop) (u9000_ : Value) (l0 : List Int) (a1 : Int) (r1 : Int) (r2 : List Int) (w0 w : World) (hB : Below w0.heap.size w0 w) (ho0 : Kd.R (Kd.int .i64) 3 w w0.heap.size P0_ u9000_ l0) (h : laws_markIntS.f k l0 a1 = some (r1, r2)) :
  Calls Try.prog 30 #[u9000_, .int .i64 a1] w fun e w' => e = .returned (.int .i64 r1) ∧ Kd.R (Kd.int .i64) 3 w' w0.heap.size (fun k_ => (P0_ k_ ∨ w.heap.size ≤ k_)) u9000_ r2 ∧ Below w0.heap.size w0 w' ∧ Kept w w' (fun k_ => P0_ k_) := by
 have HO0 := Am (show Kd.R (Kd.int .i64) 3 w w0.heap.size (fun k_ => (P0_ k_ ∨ w.heap.size ≤ k_)) u9000_ l0 from Kd.R_mono ho0 (fun k_ hk => (.inl hk)))
 have HK := Am (Kept.refl w (fun k_ => P0_ k_))
 have HW0 := Am hB.size
 have HB := Am hB
 clear hB
 have H : (laws_markIntS.l0 k l0 a1 0) = some (r1, r2) := h
 clear h
 have H' := Am H
 clear H
 go_enter Try.func30, Try.ntmps30
 go_wp2
 go_loopg [1, 5] k (fun kq v1 v5 w' => ∃ (x0_1 : List Int) (x1_1 : Int) (x5_1 : Int), v1 = .int .i64 x1_1 ∧ v5 = .int .i64 x5_1 ∧ Aside0 (laws_markIntS.l0 kq x0_1 x1_1 x5_1 = some (r1, r2)) ∧ Aside0 (kq ≤ k) ∧ Aside0 (Kd.R (Kd.int .i64) 3 w' w0.heap.size (fun k_ => (P0_ k_ ∨ w.heap.size ≤ k_)) u9000_ x0_1) ∧ Aside0 (Kept w w' (fun k_ => P0_ k_)) ∧ Aside0 (Below w0.heap.size w0 w'))
 case atStart => exact ⟨(l0), (a1), (0), Xr, Xr, H', Xkr, (Xp' HO0), ⟨by repeat first | (with_reducible first | exact HK.out | apply Kept.drewN | apply Kept.drew) | exact HK.out⟩, ⟨Xi⟩⟩
 clear H'
 obtain ⟨x0_1, x1_1, x5_1, rfl, rfl, HA, HK1, O_0, HK, HB⟩ := hrel
 cases gk with | zero => cases HA.out | succ k1 => ?_
 have H := HA.out
 clear HA
 simp only [laws_markIntS.l0] at H
 obtain ⟨c3b0, H⟩ | ⟨c3b0, H⟩ := Xit H
 ·obtain ⟨c4b0, H⟩ := Xid H
  obtain ⟨y10, hy10⟩ : ∃ y_ : List Int, y_ = (x0_1.set (x5_1 : Int).toNat x1_1) := ⟨_, rfl⟩
  replace H : (laws_markIntS.l0 k1 y10 (wrap64 (x1_1 + 1)) (wrap64 (x5_1 + 1))) = some (r1, r2) := by first | (rw [hy10]; with_reducible exact H) | (have H2_ := (Option.bind_some _ _).symm.trans H; rw [hy10]; with_reducible exact H2_) | (have H2_ := (Option.bind_some _ _).symm.trans H; with_reducible exact H2_) | with_reducible exact H | (rw [hy10]; exact H) | exact H
  have Ny10 := Am hy10
  clear hy10
  have H' := Am H
  clear H
  obtain ⟨Ao6, co6, eo6⟩ := Kd.R_slice O_0.out
  subst eo6
  have p5 : 0 ≤ (x5_1 : Int) := Xo
  have q5 : (x5_1 : Int) < ((x0_1.length : Int) : Int) := Xo
  obtain ⟨go5, co5, eo5, gb5, gl5, cl5, HG5⟩ := Kd.R_form O_0.out (by omega)
  (first | cases eo5 | (injection eo5 with ea_ en_ ec_; (first | subst ea_ | (injection ea_ with ea_; subst ea_)); subst ec_; clear en_))
  have GB5 := Am gb5
  have GG5 := Am HG5
  clear gb5 gl5 HG5
  have HMgo5 := Am (show (P0_ go5 ∨ w.heap.size ≤ go5) from (O_0.out.1 _ rfl))
  obtain ⟨hx5_0, hf5_0⟩ := Kd.R_celln 0 O_0.out (x5_1 : Int) p5 q5
  replace p5 := eq_true p5
  replace q5 := eq_true q5
  have HP7 := Kd.R_putg O_0.out (x5_1 : Int) x1_1
  go_wp2_with (first | ((with_reducible refine gate_store (t := 3) (p := 15) rfl ?_); refine store_event (t := 3) (p := 15) (v := ?vo_w8) (w1 := (wr.setCell ⟨go5, (x5_1 : Int).toNat, none⟩ (.int .i64 x1_1))) ?hg ?ho ?hn ?hr ?_; (case ho => rfl); (case hg => rfl); (case hn => rfl); (case hr => first | (go_simp; done) | (go_simp; rfl)); intro w8 hw; have hg : wr.grownBy w8 (some go5) := (by rw [hw]; exact HP7.2); have hp_ : Kd.R (Kd.int .i64) 3 w8 w0.heap.size (fun k_ => (P0_ k_ ∨ w.heap.size ≤ k_)) (.slice (some ⟨go5, 0, none⟩) x0_1.length co6) y10 := (by rw [hw, Ny10.out]; exact HP7.1); clear HP7; replace HB := Am ((by rw [hw]; exact below_set (HB.out) GB5.out : Below w0.heap.size w0 w8)); replace HK := Am (Kept.of_grown (S := (fun k_ => P0_ k_)) hg (by repeat first | (with_reducible first | exact HK.out | apply Kept.drewN | apply Kept.drew) | exact HK.out) (fun k_ e_ => (O_0.out.1 k_ e_))); replace O_0 := Am (hp_); clear hg hw hp_))
  go_roundg k1
  case measure => have := HK1.out; omega
  case rel => exact ⟨(y10), (wrap64 (x1_1 + 1)), (wrap64 (x5_1 + 1)), Xr, Xr, H', Xk1, (Xp' O_0), ⟨by repeat first | (with_reducible first | exact HK.out | apply Kept.drewN | apply Kept.drew) | exact HK.out⟩, ⟨Xi⟩⟩
 simp only [Option.some.injEq, Prod.mk.injEq] at H
 obtain ⟨rfl, rfl⟩ := H
 obtain ⟨Ao9, co9, eo9⟩ := Kd.R_slice O_0.out
 subst eo9
 go_wp2
 go_ret
 exact ⟨Xe, Xq O_0, Xi, by repeat first | (with_reducible first | exact HK.out | apply Kept.drewN | apply Kept.drew) | exact HK.out⟩
def laws_markText.l0 : Nat → Int → ByteArray → Option (ByteArray)
 | 0, _, _ => none
 | k + 1, x0, x3 => if x0 > 0 then ((some (([(wrap64 (48 + (Int.tmod x0 10))) % 256] : List Int) : List Int)).bind fun y10 => (if (strOfNums y10).size + x3.size ≤ 9223372036854775807 then (laws_markText.l0 k (wrap64 (Int.tdiv x0 10)) ((strOfNums y10) ++ x3)) else (none))) else (if 1 + x3.size ≤ 9223372036854775807 then (some ((⟨#[109]⟩ : ByteArray) ++ x3)) else (none))
def laws_markText.f (k : Nat) (a0 : Int) : Option (ByteArray) := if a0 ≤ 0 then (some (⟨#[109, 48]⟩ : ByteArray)) else (laws_markText.l0 k a0 (⟨#[]⟩ : ByteArray))
theorem laws_markText.calls (k : Nat) (a0 : Int) (r : ByteArray) (w : World) (h : laws_markText.f k a0 = some r) :
  Calls Try.prog 88 #[.int .i64 a0] w fun e w' => e = .returned (.string r) ∧ Below w.heap.size w w' := by
 have HB := Am (Below.refl w.heap.size w)
 have H : (if a0 ≤ 0 then (some (⟨#[109, 48]⟩ : ByteArray)) else (laws_markText.l0 k a0 (⟨#[]⟩ : ByteArray))) = some r := h
 clear h
 obtain ⟨c2b0, H⟩ | ⟨c2b0, H⟩ := Xit H
 ·obtain rfl := Xsi H
  go_enter Try.func88, Try.ntmps88
  go_wp2
  go_ret
  exact ⟨Xe, Xi⟩
 have H' := Am H
 clear H
 go_enter Try.func88, Try.ntmps88
 go_wp2
 go_loopg [0, 3] k (fun kq v0 v3 w' => ∃ (x0_1 : Int) (x3_1 : ByteArray), v0 = .int .i64 x0_1 ∧ v3 = .string x3_1 ∧ Aside0 (laws_markText.l0 kq x0_1 x3_1 = some r) ∧ Aside0 (kq ≤ k) ∧ Aside0 (Below w.heap.size w w'))
 case atStart => exact ⟨(a0), ((⟨#[]⟩ : ByteArray)), Xr, Xr, H', Xkr, ⟨Xi⟩⟩
 clear H'
 (try clear c2); (try clear c2b0)
 obtain ⟨x0_1, x3_1, rfl, rfl, HA, HK1, HB⟩ := hrel
 cases gk with | zero => cases HA.out | succ k1 => ?_
 have H := HA.out
 clear HA
 simp only [laws_markText.l0] at H
 obtain ⟨c3, H⟩ | ⟨c3, H⟩ := Xiu H
 ·have c3b0 : decide (0 < x0_1) = true := decide_eq_true c3
  clear c3
  obtain ⟨y10, hy10⟩ : ∃ y_ : List Int, y_ = (([(wrap64 (48 + (Int.tmod x0_1 10))) % 256] : List Int)) := ⟨_, rfl⟩
  replace H : (if (strOfNums y10).size + x3_1.size ≤ 9223372036854775807 then (laws_markText.l0 k1 (wrap64 (Int.tdiv x0_1 10)) ((strOfNums y10) ++ x3_1)) else (none)) = some r := by first | (rw [hy10]; with_reducible exact H) | (have H2_ := (Option.bind_some _ _).symm.trans H; rw [hy10]; with_reducible exact H2_) | (have H2_ := (Option.bind_some _ _).symm.trans H; with_reducible exact H2_) | with_reducible exact H | (rw [hy10]; exact H) | exact H
  have Ny10 := Am hy10
  clear hy10
  obtain ⟨c4, H⟩ := Xif H
  have c4b0 := eq_true c4
  have c4b1 : decide ((strOfNums y10).size + x3_1.size ≤ 9223372036854775807) = true := decide_eq_true c4
  try have c4b2 : (9223372036854775807 < (strOfNums y10).size + x3_1.size) = False := eq_false (Nat.not_lt.2 c4)
  have H' := Am H
  clear H
  go_wp2_with (first | ((with_reducible refine gate_dst (N := 12) rfl ?_); refine Kd.R_lit (Kd.int .u8) _ 5 ?hg (N := 12) ?hd (xs := ([(wrap64 (48 + (Int.tmod x0_1 10))) % 256] : List Int)) (inner := [.int .u8 ((wrap64 (48 + (Int.tmod x0_1 10))) % 256)]) (ok := fun _ => True) (okp := fun _ => True) ?hr ?hp (fun _ hk => hk) trivial (Below.refl _ _) (Nat.le_refl _) (by simp) ?_; (case hd => rfl); (case hg => rfl); (case hr => first | (go_simp; done) | (go_simp; rfl)); (case hp => exact (Reps.one (show Kd.M (Kd.int .u8) _ _ _ ((wrap64 (48 + (Int.tmod x0_1 10))) % 256) [.int .u8 ((wrap64 (48 + (Int.tmod x0_1 10))) % 256)] from rfl) (Reps.none _ _))); intro v149 w5 ho6 hb hg_ hnew_; clear hg_ hnew_; (first | rw [← Ny10.out] at ho6 | (simp only [Int.reduceToNat] at ho6; rw [← Ny10.out] at ho6)); have HO11 := Am (Kd.R_lower ho6 (below_size Xi)); replace HB := Xhb hb; clear hb ho6; have hcv7 := own_string (P := Try.prog) Try.underlying35 Try.underlying5 Try.underlying9 (Kd.own_of_R HO11.out)))
  go_roundg k1
  case measure => have := HK1.out; omega
  case rel => exact ⟨(wrap64 (Int.tdiv x0_1 10)), ((strOfNums y10) ++ x3_1), Xr, Xr, H', Xk1, ⟨Xi⟩⟩
 have c3b0 : decide (0 < x0_1) = false := decide_eq_false c3
 clear c3
 obtain ⟨c8, H⟩ | ⟨c8, H⟩ := Xiu H
 ·have c8b0 := eq_true c8
  have c8b1 : decide (1 + x3_1.size ≤ 9223372036854775807) = true := decide_eq_true c8
  try have c8b2 : (9223372036854775807 < 1 + x3_1.size) = False := eq_false (Nat.not_lt.2 c8)
  obtain rfl := Xsi H
  go_wp2
  go_ret
  exact ⟨Xe, Xi⟩
 exact absurd H (by simp)
def laws_heldIntS.l0 : Nat → List Int → Int → Int → Option (Int)
 | 0, _, _, _ => none
 | k + 1, x0, x1, x5 => if x5 < (x0.length : Int) then (if 0 ≤ x5 then (if (rd x0 x5) = x1 then (laws_heldIntS.l0 k x0 (wrap64 (x1 + 1)) (wrap64 (x5 + 1))) else (some (-1))) else (none)) else (some x1)
def laws_heldIntS.f (k : Nat) (l0 : List Int) (a1 : Int) : Option (Int) := laws_heldIntS.l0 k l0 a1 0
theorem laws_heldIntS.calls (k : Nat) (A0 : Option Addr) (c0 : Nat) (l0 : List Int) (a1 : Int) (r : Int) (w : World) (hr0 : Kd.C (Kd.int .i64) w A0 l0.length l0) (hc0 : l0.length ≤ c0) (h : laws_heldIntS.f k l0 a1 = some r) :
  Calls Try.prog 31 #[.slice A0 l0.length c0, .int .i64 a1] w fun e w' => e = .returned (.int .i64 r) ∧ Drawn0 w w' := by
 have HR0 := Am hr0
 have HC0 := Am hc0
 clear hr0 hc0
 have H : (laws_heldIntS.l0 k l0 a1 0) = some r := h
 clear h
 have H' := Am H
 clear H
 go_enter Try.func31, Try.ntmps31
 go_wp2
 go_loopg [1, 5] k (fun kq v1 v5 w' => ∃ (x1_1 : Int) (x5_1 : Int), v1 = .int .i64 x1_1 ∧ v5 = .int .i64 x5_1 ∧ Aside0 (laws_heldIntS.l0 kq l0 x1_1 x5_1 = some r) ∧ Aside0 (kq ≤ k) ∧ Drawn0 w w')
 case atStart => exact ⟨(a1), (0), Xr, Xr, H', Xkr, by repeat (first | exact Drawn0.refl _ | apply Drawn0.step)⟩
 clear H'
 obtain ⟨x1_1, x5_1, rfl, rfl, HA, HK1, ⟨m1, rfl⟩⟩ := hrel
 cases gk with | zero => cases HA.out | succ k1 => ?_
 have H := HA.out
 clear HA
 simp only [laws_heldIntS.l0] at H
 obtain ⟨c3b0, H⟩ | ⟨c3b0, H⟩ := Xit H
 ·obtain ⟨c4b0, H⟩ := Xid H
  obtain ⟨c5, H⟩ | ⟨c5, H⟩ := Xiu H
  ·have c5b0 : ((rd l0 x5_1) == x1_1) = true := beq_iff_eq.mpr c5
   have c5b1 : ((rd l0 x5_1) != x1_1) = false := bne_eq_false_iff_eq.mpr c5
   clear c5
   have H' := Am H
   clear H
   have p10 : 0 ≤ (x5_1 : Int) := Xo
   have q10 : x5_1 < (l0.length : Int) := Xo
   obtain ⟨ad10, e10, hx10_0⟩ := Kd.at_int HR0.out x5_1 p10 q10
   cases e10
   replace p10 := eq_true p10
   replace q10 := eq_true q10
   go_wp2
   go_roundg k1
   case measure => have := HK1.out; omega
   case rel => exact ⟨(wrap64 (x1_1 + 1)), (wrap64 (x5_1 + 1)), Xr, Xr, H', Xk1, by repeat (first | exact Drawn0.refl _ | apply Drawn0.step)⟩
  have c5b0 : ((rd l0 x5_1) == x1_1) = false := beq_eq_false_iff_ne.mpr c5
  have c5b1 : ((rd l0 x5_1) != x1_1) = true := bne_iff_ne.mpr c5
  obtain rfl := Xsi H
  have p10 : 0 ≤ (x5_1 : Int) := Xo
  have q10 : x5_1 < (l0.length : Int) := Xo
  obtain ⟨ad10, e10, hx10_0⟩ := Kd.at_int HR0.out x5_1 p10 q10
  cases e10
  replace p10 := eq_true p10
  replace q10 := eq_true q10
  go_wp2
  go_ret
  exact ⟨Xr, Xdr⟩
 obtain rfl := Xsi H
 go_wp2
 go_ret
 exact ⟨Xr, Xdr⟩
def laws_heldNodeS.l0 : Nat → List (S43) → Int → Int → Option (Int)
 | 0, _, _, _ => none
 | k + 1, x0, x1, x5 => if x5 < (x0.length : Int) then (if 0 ≤ x5 then (if ((rd_T43 x0 x5).f0) = x1 then (if ((rd_T43 x0 x5).f1) = (wrap64 (x1 + 1)) then (if ((rd_T43 x0 x5).f2) = (wrap64 ((wrap64 (x1 + 1)) + 1)) then ((laws_markText.f k (wrap64 ((wrap64 ((wrap64 (x1 + 1)) + 1)) + 1))).bind fun t10 => (if ((rd_T43 x0 x5).f3).toList = t10.toList then ((laws_heldIntS.f k ((rd_T43 x0 x5).f4) (wrap64 ((wrap64 ((wrap64 ((wrap64 (x1 + 1)) + 1)) + 1)) + 1))).bind fun t11 => (if t11 < 0 then (some (-1)) else (laws_heldNodeS.l0 k x0 t11 (wrap64 (x5 + 1))))) else (some (-1)))) else (some (-1))) else (some (-1))) else (some (-1))) else (none)) else (some x1)
def laws_heldNodeS.f (k : Nat) (l0 : List (S43)) (a1 : Int) : Option (Int) := laws_heldNodeS.l0 k l0 a1 0
def laws_heldNodeS.T13 : Bool × List (List Nat × List Nat) := (true, [([], []), ([], []), ([0, 1], [0, 1]), ([2], [2]), ([3], [3]), ([], []), ([5], [5]), ([4, 6], [4, 6])])
def laws_heldNodeS.B13 : List Nat := [0, 0, 3, 7, 15, 0, 32, 127]
theorem laws_heldNodeS.tab13 : rtab .any (opsOf Try.f90 13) = laws_heldNodeS.T13 := by kernel_rfl
theorem laws_heldNodeS.bits13 : waitsOk laws_heldNodeS.T13.2 laws_heldNodeS.B13 = true := by kernel_rfl
theorem laws_heldNodeS.calls (k : Nat) (A0 : Option Addr) (c0 : Nat) (l0 : List (S43)) (a1 : Int) (r : Int) (w : World) (hr0 : Kd.C k43 w A0 l0.length l0) (hc0 : l0.length ≤ c0) (h : laws_heldNodeS.f k l0 a1 = some r) :
  Calls Try.prog 90 #[.slice A0 l0.length c0, .int .i64 a1] w fun e w' => e = .returned (.int .i64 r) ∧ Below w.heap.size w w' := by
 have HR0 := Am hr0
 have HC0 := Am hc0
 clear hr0 hc0
 have HB := Am (Below.refl w.heap.size w)
 have H : (laws_heldNodeS.l0 k l0 a1 0) = some r := h
 clear h
 have H' := Am H
 clear H
 go_enter Try.func90, Try.ntmps90
 go_wp2
 go_loopg [1, 5] k (fun kq v1 v5 w' => ∃ (x1_1 : Int) (x5_1 : Int), v1 = .int .i64 x1_1 ∧ v5 = .int .i64 x5_1 ∧ Aside0 (laws_heldNodeS.l0 kq l0 x1_1 x5_1 = some r) ∧ Aside0 (kq ≤ k) ∧ Aside0 (Below w.heap.size w w'))
 case atStart => exact ⟨(a1), (0), Xr, Xr, H', Xkr, ⟨Xi⟩⟩
 clear H'
 obtain ⟨x1_1, x5_1, rfl, rfl, HA, HK1, HB⟩ := hrel
 cases gk with | zero => cases HA.out | succ k1 => ?_
 have H := HA.out
 clear HA
 simp only [laws_heldNodeS.l0] at H
 obtain ⟨c3b0, H⟩ | ⟨c3b0, H⟩ := Xit H
 ·obtain ⟨c4b0, H⟩ := Xid H
  obtain ⟨c5, H⟩ | ⟨c5, H⟩ := Xiu H
  ·have c5b0 : (((rd_T43 l0 x5_1).f0) == x1_1) = true := beq_iff_eq.mpr c5
   have c5b1 : (((rd_T43 l0 x5_1).f0) != x1_1) = false := bne_eq_false_iff_eq.mpr c5
   clear c5
   obtain ⟨c6, H⟩ | ⟨c6, H⟩ := Xiu H
   ·have c6b0 : (((rd_T43 l0 x5_1).f1) == (wrap64 (x1_1 + 1))) = true := beq_iff_eq.mpr c6
    have c6b1 : (((rd_T43 l0 x5_1).f1) != (wrap64 (x1_1 + 1))) = false := bne_eq_false_iff_eq.mpr c6
    clear c6
    obtain ⟨c7, H⟩ | ⟨c7, H⟩ := Xiu H
    ·have c7b0 : (((rd_T43 l0 x5_1).f2) == (wrap64 ((wrap64 (x1_1 + 1)) + 1))) = true := beq_iff_eq.mpr c7
     have c7b1 : (((rd_T43 l0 x5_1).f2) != (wrap64 ((wrap64 (x1_1 + 1)) + 1))) = false := bne_eq_false_iff_eq.mpr c7
     clear c7
     obtain ⟨t16, A8, H⟩ := Xbi H
     try dsimp only at H
     have HC9 := Am H
     clear H
     obtain ⟨ad17, A152_4, c152_4, e17, p17, q17, hx17_0, hx17_1, hx17_2, hx17_3, hx17_4, HC17_4, HR17_4⟩ := at_B43 HR0 x5_1 Xa Xa HB
     cases e17
     obtain ⟨ad18, A153_4, c153_4, e18, p18, q18, hx18_0, hx18_1, hx18_2, hx18_3, hx18_4, HC18_4, HR18_4⟩ := at_B43 HR0 x5_1 Xa Xa HB
     obtain rfl : ad17 = ad18 := (by injection e18)
     have ea_ := Option.some.inj (hx17_4.symm.trans hx18_4)
     injection ea_ with ea_ en_ ec_
     subst ea_
     subst ec_
     clear en_
     obtain ⟨ad19, A154_4, c154_4, e19, p19, q19, hx19_0, hx19_1, hx19_2, hx19_3, hx19_4, HC19_4, HR19_4⟩ := at_B43 HR0 x5_1 Xa Xa HB
     obtain rfl : ad17 = ad19 := (by injection e19)
     have ea_ := Option.some.inj (hx17_4.symm.trans hx19_4)
     injection ea_ with ea_ en_ ec_
     subst ea_
     subst ec_
     clear en_
     try go_wp2_with (fail)
     replace HB := Xhd HB
     have p20 : 0 ≤ (x5_1 : Int) := Xo
     have q20 : x5_1 < (l0.length : Int) := Xo
     obtain ⟨ad20, A155_4, c155_4, e20, hx20_0, hx20_1, hx20_2, hx20_3, hx20_4, hl155_4, hi155_4⟩ := at_T43 HR0.out x5_1 p20 q20
     have hw155_4 := hx20_4
     have hw155_3 := hx20_3
     have hw155_2 := hx20_2
     have hw155_1 := hx20_1
     have hw155_0 := hx20_0
     obtain rfl : ad17 = ad20 := (by injection e20)
     replace hx20_0 := Xm HB hx20_0
     replace hx20_1 := Xm HB hx20_1
     replace hx20_2 := Xm HB hx20_2
     replace hx20_3 := Xm HB hx20_3
     replace hx20_4 := Xm HB hx20_4
     have HR20_4 := Am hi155_4
     have HC20_4 := Am hl155_4
     clear hi155_4 hl155_4
     replace p20 := eq_true p20
     replace q20 := eq_true q20
     refine Sx 8 (fun w' => w'.cell? (ad17.add ((x5_1).toNat * 5)) = some (.int .i64 ((rd_T43 l0 x5_1).f0)) ∧ w'.cell? ⟨(ad17.add ((x5_1).toNat * 5)).block, (ad17.add ((x5_1).toNat * 5)).off + 1, none⟩ = some (.int .i64 ((rd_T43 l0 x5_1).f1)) ∧ w'.cell? ⟨(ad17.add ((x5_1).toNat * 5)).block, (ad17.add ((x5_1).toNat * 5)).off + 2, none⟩ = some (.int .i64 ((rd_T43 l0 x5_1).f2)) ∧ w'.cell? ⟨(ad17.add ((x5_1).toNat * 5)).block, (ad17.add ((x5_1).toNat * 5)).off + 3, none⟩ = some (.string ((rd_T43 l0 x5_1).f3)) ∧ w'.cell? ⟨(ad17.add ((x5_1).toNat * 5)).block, (ad17.add ((x5_1).toNat * 5)).off + 4, none⟩ = some (.slice A155_4 ((rd_T43 l0 x5_1).f4).length c155_4)) ⟨Xn hw155_0, Xn hw155_1, Xn hw155_2, Xn hw155_3, Xn hw155_4⟩ (fun hHeld => ?_); refine with_tabW laws_heldNodeS.tab13 laws_heldNodeS.bits13 (fun HT_ HW_ => ?_)
     generalize wr.drew = w10 at HB HR20_4 hx20_0 hx20_1 hx20_2 hx20_3 hx20_4 hHeld ⊢
     refine Pu 0 39 8 1 ?_
     refine Pu 1 40 8 3 ?_
     refine Pu 2 41 8 7 ?_
     refine Pu 3 42 8 15 ?_
     refine Pu 5 44 8 47 ?_
     refine Ta 4 43 8 63 ?_
     refine On 6 45 8 127 (fun K hK => ?_)
     refine Gs Try.func88 #[.int .i64 (wrap64 ((wrap64 ((wrap64 (x1_1 + 1)) + 1)) + 1))] ?_
     with_reducible refine (laws_markText.calls k1 (wrap64 ((wrap64 ((wrap64 (x1_1 + 1)) + 1)) + 1)) t16 _ A8.out).mono ?_
     rintro e w11 ⟨rfl, hb⟩
     refine ⟨_, rfl, ?_⟩
     replace HB := Xhb hb
     try clear hb
     try clear hb2
     try clear hk
     try clear hi
     refine hK.out _ _ ⟨Xn hw155_0, Xn hw155_1, Xn hw155_2, Xn hw155_3, Xn hw155_4⟩ (fun hHeld => ?_)
     clear hK K
     refine Xno ?_
     refine Pu 7 46 8 255 ?_
     refine Dn ?_
     go_upto_if 46 with (fail)
     have H := HC9.out
     clear HC9
     obtain ⟨c12, H⟩ | ⟨c12, H⟩ := Xiu H
     ·have c12b0 : (((rd_T43 l0 x5_1).f3).toList == t16.toList) = true := beq_iff_eq.mpr c12
      have c12b1 : (((rd_T43 l0 x5_1).f3).toList != t16.toList) = false := bne_eq_false_iff_eq.mpr c12
      clear c12
      (first | rw [c12b0] | (simp only [i64_w, i32_w]; rw [c12b0]) | skip)
      obtain ⟨t21, A13, H⟩ := Xbi H
      try dsimp only at H
      have HC14 := Am H
      clear H
      obtain ⟨ad22, A157_4, c157_4, e22, p22, q22, hx22_0, hx22_1, hx22_2, hx22_3, hx22_4, HC22_4, HR22_4⟩ := at_B43 HR0 x5_1 Xa Xa HB
      obtain rfl : ad17 = ad22 := (by injection e22)
      have ea_ := Option.some.inj (hx22_4.symm.trans (Xm HB hw155_4))
      injection ea_ with ea_ en_ ec_
      subst ea_
      subst ec_
      clear en_
      go_upto_if 57 with ((with_reducible refine gate_callee (f := 31) rfl ?_); refine Xgo 55 Try.func31 #[.slice A157_4 ((rd_T43 l0 x5_1).f4).length c157_4, .int .i64 (wrap64 ((wrap64 ((wrap64 ((wrap64 (x1_1 + 1)) + 1)) + 1)) + 1))] ?_; (with_reducible refine (laws_heldIntS.calls k1 _ _ ((rd_T43 l0 x5_1).f4) (wrap64 ((wrap64 ((wrap64 ((wrap64 (x1_1 + 1)) + 1)) + 1)) + 1)) t21 _ ?s1 ?s2 A13.out).mono ?_); (case s1 => exact Xc HR22_4); (case s2 => exact HC22_4.out); rintro e w' ⟨rfl, ⟨nd, rfl⟩⟩; refine ⟨_, rfl, ?_⟩)
      (try (rw [drewN_self w11]; generalize hq_ : World.drewN w11 _ = w11; have n0_ : Aside0 (Below w.heap.size w w11) := ⟨by rw [← hq_]; exact Xi⟩; clear HB hq_; have HB := n0_; clear n0_))
      have H := HC14.out
      clear HC14
      obtain ⟨c15b0, H⟩ | ⟨c15b0, H⟩ := Xit H
      ·(first | rw [c15b0] | (simp only [i64_w, i32_w]; rw [c15b0]) | skip)
       obtain rfl := Xsi H
       go_wp2
       go_ret
       exact ⟨Xe, Xi⟩
      (first | rw [c15b0] | (simp only [i64_w, i32_w]; rw [c15b0]) | skip)
      have H' := Am H
      clear H
      go_wp2
      go_roundg k1
      case measure => have := HK1.out; omega
      case rel => exact ⟨(t21), (wrap64 (x5_1 + 1)), Xr, Xr, H', Xk1, ⟨Xi⟩⟩
     have c12b0 : (((rd_T43 l0 x5_1).f3).toList == t16.toList) = false := beq_eq_false_iff_ne.mpr c12
     have c12b1 : (((rd_T43 l0 x5_1).f3).toList != t16.toList) = true := bne_iff_ne.mpr c12
     (first | rw [c12b0] | (simp only [i64_w, i32_w]; rw [c12b0]) | skip)
     obtain rfl := Xsi H
     go_wp2
     go_ret
     exact ⟨Xe, Xi⟩
    have c7b0 : (((rd_T43 l0 x5_1).f2) == (wrap64 ((wrap64 (x1_1 + 1)) + 1))) = false := beq_eq_false_iff_ne.mpr c7
    have c7b1 : (((rd_T43 l0 x5_1).f2) != (wrap64 ((wrap64 (x1_1 + 1)) + 1))) = true := bne_iff_ne.mpr c7
    obtain rfl := Xsi H
    obtain ⟨ad17, A152_4, c152_4, e17, p17, q17, hx17_0, hx17_1, hx17_2, hx17_3, hx17_4, HC17_4, HR17_4⟩ := at_B43 HR0 x5_1 Xa Xa HB
    cases e17
    obtain ⟨ad18, A153_4, c153_4, e18, p18, q18, hx18_0, hx18_1, hx18_2, hx18_3, hx18_4, HC18_4, HR18_4⟩ := at_B43 HR0 x5_1 Xa Xa HB
    obtain rfl : ad17 = ad18 := (by injection e18)
    have ea_ := Option.some.inj (hx17_4.symm.trans hx18_4)
    injection ea_ with ea_ en_ ec_
    subst ea_
    subst ec_
    clear en_
    obtain ⟨ad19, A154_4, c154_4, e19, p19, q19, hx19_0, hx19_1, hx19_2, hx19_3, hx19_4, HC19_4, HR19_4⟩ := at_B43 HR0 x5_1 Xa Xa HB
    obtain rfl : ad17 = ad19 := (by injection e19)
    have ea_ := Option.some.inj (hx17_4.symm.trans hx19_4)
    injection ea_ with ea_ en_ ec_
    subst ea_
    subst ec_
    clear en_
    go_wp2
    go_ret
    exact ⟨Xe, Xi⟩
   have c6b0 : (((rd_T43 l0 x5_1).f1) == (wrap64 (x1_1 + 1))) = false := beq_eq_false_iff_ne.mpr c6
   have c6b1 : (((rd_T43 l0 x5_1).f1) != (wrap64 (x1_1 + 1))) = true := bne_iff_ne.mpr c6
   obtain rfl := Xsi H
   obtain ⟨ad17, A152_4, c152_4, e17, p17, q17, hx17_0, hx17_1, hx17_2, hx17_3, hx17_4, HC17_4, HR17_4⟩ := at_B43 HR0 x5_1 Xa Xa HB
   cases e17
   obtain ⟨ad18, A153_4, c153_4, e18, p18, q18, hx18_0, hx18_1, hx18_2, hx18_3, hx18_4, HC18_4, HR18_4⟩ := at_B43 HR0 x5_1 Xa Xa HB
   obtain rfl : ad17 = ad18 := (by injection e18)
   have ea_ := Option.some.inj (hx17_4.symm.trans hx18_4)
   injection ea_ with ea_ en_ ec_
   subst ea_
   subst ec_
   clear en_
   go_wp2
   go_ret
   exact ⟨Xe, Xi⟩
  have c5b0 : (((rd_T43 l0 x5_1).f0) == x1_1) = false := beq_eq_false_iff_ne.mpr c5
  have c5b1 : (((rd_T43 l0 x5_1).f0) != x1_1) = true := bne_iff_ne.mpr c5
  obtain rfl := Xsi H
  obtain ⟨ad17, A152_4, c152_4, e17, p17, q17, hx17_0, hx17_1, hx17_2, hx17_3, hx17_4, HC17_4, HR17_4⟩ := at_B43 HR0 x5_1 Xa Xa HB
  cases e17
  go_wp2
  go_ret
  exact ⟨Xe, Xi⟩
 obtain rfl := Xsi H
 go_wp2
 go_ret
 exact ⟨Xe, Xi⟩
def laws_heldDoc.f (k : Nat) (a0_0 : Int) (a0_1 : Int) (l0_2 : List (S43)) (a1 : Int) : Option (Int) := (laws_heldNodeS.f k l0_2 a1).bind fun t10 => (if t10 < 0 then (some (-1)) else (some t10))
theorem laws_heldDoc.calls (k : Nat) (a0_0 : Int) (a0_1 : Int) (A0_2 : Option Addr) (c0_2 : Nat) (l0_2 : List (S43)) (a1 : Int) (r : Int) (w : World) (hr0_2 : Kd.C k43 w A0_2 l0_2.length l0_2) (hc0_2 : l0_2.length ≤ c0_2) (h : laws_heldDoc.f k a0_0 a0_1 l0_2 a1 = some r) :
  Calls Try.prog 45 #[.agg #[.int .i64 a0_0, .int .i64 a0_1, .slice A0_2 l0_2.length c0_2], .int .i64 a1] w fun e w' => e = .returned (.int .i64 r) ∧ Below w.heap.size w w' := by
 have hu29 := Try.underlying29
 have HR0_2 := Am hr0_2
 have HC0_2 := Am hc0_2
 clear hr0_2 hc0_2
 have HB := Am (Below.refl w.heap.size w)
 have H : ((laws_heldNodeS.f k l0_2 a1).bind fun t10 => (if t10 < 0 then (some (-1)) else (some t10))) = some r := h
 clear h
 obtain ⟨t10, A3, H⟩ := Xbi H
 try dsimp only at H
 have HC4 := Am H
 clear H
 go_enter Try.func45, Try.ntmps45
 go_upto_if 10 with (first | ((with_reducible refine gate_dst (N := 2) rfl ?_); refine Xbx 2 #[.int .i64 a0_0, .int .i64 a0_1, .slice A0_2 l0_2.length c0_2] 29 ?_; intro gb11 hg w5 B11 GE11 hb; replace HB := Xhb hb; clear hb hg; obtain ⟨Z6_0, Z6_1, Z6_2⟩ := Xc3 B11) | ((with_reducible refine gate_callee (f := 90) rfl ?_); refine Xgo 8 Try.func90 #[.slice A0_2 l0_2.length c0_2, .int .i64 a1] ?_; (with_reducible refine (laws_heldNodeS.calls k _ _ l0_2 a1 t10 _ ?s1 ?s2 A3.out).mono ?_); (case s1 => exact Xc HR0_2); (case s2 => exact HC0_2.out); rintro e w7 ⟨rfl, hb⟩; refine ⟨_, rfl, ?_⟩; replace B11 := Xbb B11 hb; replace HB := Xhb hb; clear hb))
 have H := HC4.out
 clear HC4
 obtain ⟨c8b0, H⟩ | ⟨c8b0, H⟩ := Xit H
 ·(first | rw [c8b0] | (simp only [i64_w, i32_w]; rw [c8b0]) | skip)
  obtain rfl := Xsi H
  go_wp2
  go_ret
  exact ⟨Xe, Xi⟩
 (first | rw [c8b0] | (simp only [i64_w, i32_w]; rw [c8b0]) | skip)
 obtain rfl := Xsi H
 go_wp2
 go_ret
 exact ⟨Xe, Xi⟩
def spec_l01In.f (a0 : Int) (a1 : Int) (a2 : Int) : Option (Bool) := if a0 ≥ a1 then (some (decide (a0 ≤ a2))) else (some false)
theorem spec_l01In.calls (a0 : Int) (a1 : Int) (a2 : Int) (r : Bool) (w : World) (h : spec_l01In.f a0 a1 a2 = some r) :
  Calls Try.prog 84 #[.int .i64 a0, .int .i64 a1, .int .i64 a2] w fun e w' => e = .returned (.bool r) ∧ Drawn0 w w' := by
 have H : (if a0 ≥ a1 then (some (decide (a0 ≤ a2))) else (some false)) = some r := h
 clear h
 obtain ⟨c4, H⟩ | ⟨c4, H⟩ := Xiu H
 ·have c4b0 : decide (a1 ≤ a0) = true := decide_eq_true c4
  clear c4
  obtain rfl := Xsi H
  go_enter Try.func84, Try.ntmps84
  go_wp2
  go_ret
  exact ⟨Xr, Xdr⟩
 have c4b0 : decide (a1 ≤ a0) = false := decide_eq_false c4
 clear c4
 obtain rfl := Xsi H
 go_enter Try.func84, Try.ntmps84
 go_wp2
 go_ret
 exact ⟨Xr, Xdr⟩
def spec_l02At.l0 : Nat → Int → Int → Int → Int → List (S43) → Option (Int)
 | 0, _, _, _, _, _ => none
 | k + 1, x1, x5, x162000, x162001, x162002 => if x5 < (x162002.length : Int) then (if 0 ≤ x5 then (if ((rd_T43 x162002 x5).f0) = x1 then (some x5) else (spec_l02At.l0 k x1 (wrap64 (x5 + 1)) x162000 x162001 x162002)) else (none)) else (some (-1))
def spec_l02At.f (k : Nat) (a0_0 : Int) (a0_1 : Int) (l0_2 : List (S43)) (a1 : Int) : Option (Int) := spec_l02At.l0 k a1 0 a0_0 a0_1 l0_2
theorem spec_l02At.calls (k : Nat) (a0_0 : Int) (a0_1 : Int) (A0_2 : Option Addr) (c0_2 : Nat) (l0_2 : List (S43)) (a1 : Int) (r : Int) (w : World) (hr0_2 : Kd.C k43 w A0_2 l0_2.length l0_2) (hc0_2 : l0_2.length ≤ c0_2) (h : spec_l02At.f k a0_0 a0_1 l0_2 a1 = some r) :
  Calls Try.prog 74 #[.agg #[.int .i64 a0_0, .int .i64 a0_1, .slice A0_2 l0_2.length c0_2], .int .i64 a1] w fun e w' => e = .returned (.int .i64 r) ∧ Below w.heap.size w w' := by
 have hu29 := Try.underlying29
 have HR0_2 := Am hr0_2
 have HC0_2 := Am hc0_2
 clear hr0_2 hc0_2
 have HB := Am (Below.refl w.heap.size w)
 have H : (spec_l02At.l0 k a1 0 a0_0 a0_1 l0_2) = some r := h
 clear h
 have H' := Am H
 clear H
 go_enter Try.func74, Try.ntmps74
 go_wp2_with (first | ((with_reducible refine gate_dst (N := 2) rfl ?_); refine Xbx 2 #[.int .i64 a0_0, .int .i64 a0_1, .slice A0_2 l0_2.length c0_2] 29 ?_; intro gb10 hg w3 B10 GE10 hb; replace HB := Xhb hb; clear hb hg))
 go_loopg [5] k (fun kq v5 w' => ∃ (x5_1 : Int), v5 = .int .i64 x5_1 ∧ Aside0 (spec_l02At.l0 kq a1 x5_1 a0_0 a0_1 l0_2 = some r) ∧ Aside0 (kq ≤ k) ∧ Aside0 (w'.heap[gb10]? = some (.cells #[.int .i64 a0_0, .int .i64 a0_1, (.slice A0_2 l0_2.length c0_2)] 29 (0, 0))) ∧ Aside0 (Below w.heap.size w w'))
 case atStart => exact ⟨(0), Xr, H', Xkr, B10, ⟨Xi⟩⟩
 clear H'
 obtain ⟨x5_1, rfl, HA, HK1, B10, HB⟩ := hrel
 cases gk with | zero => cases HA.out | succ k1 => ?_
 have H := HA.out
 clear HA
 simp only [spec_l02At.l0] at H
 obtain ⟨c4b0, H⟩ | ⟨c4b0, H⟩ := Xit H
 ·obtain ⟨c5b0, H⟩ := Xid H
  obtain ⟨c6, H⟩ | ⟨c6, H⟩ := Xiu H
  ·have c6b0 : (((rd_T43 l0_2 x5_1).f0) == a1) = true := beq_iff_eq.mpr c6
   have c6b1 : (((rd_T43 l0_2 x5_1).f0) != a1) = false := bne_eq_false_iff_eq.mpr c6
   clear c6
   obtain rfl := Xsi H
   obtain ⟨Z7_0, Z7_1, Z7_2⟩ := Xc3 B10
   obtain ⟨ad11, A162_4, c162_4, e11, p11, q11, hx11_0, hx11_1, hx11_2, hx11_3, hx11_4, HC11_4, HR11_4⟩ := at_B43 HR0_2 x5_1 Xa Xa HB
   cases e11
   go_wp2
   go_ret
   exact ⟨Xe, Xi⟩
  have c6b0 : (((rd_T43 l0_2 x5_1).f0) == a1) = false := beq_eq_false_iff_ne.mpr c6
  have c6b1 : (((rd_T43 l0_2 x5_1).f0) != a1) = true := bne_iff_ne.mpr c6
  have H' := Am H
  clear H
  obtain ⟨Z8_0, Z8_1, Z8_2⟩ := Xc3 B10
  obtain ⟨ad11, A162_4, c162_4, e11, p11, q11, hx11_0, hx11_1, hx11_2, hx11_3, hx11_4, HC11_4, HR11_4⟩ := at_B43 HR0_2 x5_1 Xa Xa HB
  cases e11
  go_wp2
  go_roundg k1
  case measure => have := HK1.out; omega
  case rel => exact ⟨(wrap64 (x5_1 + 1)), Xr, H', Xk1, B10, ⟨Xi⟩⟩
 obtain rfl := Xsi H
 obtain ⟨Z9_0, Z9_1, Z9_2⟩ := Xc3 B10
 go_wp2
 go_ret
 exact ⟨Xe, Xi⟩
mutual
def spec_l02Deep.l0 : Nat → Int → Int → List Int → Int → Int → Int → List (S43) → Option (Int)
 | 0, _, _, _, _, _, _, _ => none
 | k + 1, x2, x7, x8, x9, x164000, x164001, x164002 => if x9 < (x8.length : Int) then (if 0 ≤ x9 then ((spec_l02Deep.f k x164000 x164001 x164002 (rd x8 x9) (wrap64 (x2 - 1))).bind fun t10 => (spec_l02Deep.l0 k x2 (mx x7 t10) x8 (wrap64 (x9 + 1)) x164000 x164001 x164002)) else (none)) else (some (wrap64 (x7 + 1)))
def spec_l02Deep.f : Nat → Int → Int → List (S43) → Int → Int → Option (Int)
 | 0, _, _, _, _, _ => none
 | k + 1, a0_0, a0_1, l0_2, a1, a2 => if a2 = 0 then (some 1) else ((spec_l02At.f k a0_0 a0_1 l0_2 a1).bind fun t10 => (if 0 ≤ t10 then (if t10 < (l0_2.length : Int) then (spec_l02Deep.l0 k a2 0 ((rd_T43 l0_2 t10).f4) 0 a0_0 a0_1 l0_2) else (none)) else (none)))
end
def spec_l02Deep.T4 : Bool × List (List Nat × List Nat) := (true, [([], []), ([0], [0]), ([], []), ([], []), ([2, 3], [2, 3]), ([1, 4], [1, 4]), ([5], [5]), ([6], [6]), ([7, 4, 0, 1, 2, 3, 4, 5, 6, 7], [7])])
def spec_l02Deep.B4 : List Nat := [0, 1, 0, 0, 12, 31, 63, 127, 255]
theorem spec_l02Deep.tab4 : rtab .any (opsOf Try.f96 4) = spec_l02Deep.T4 := by kernel_rfl
theorem spec_l02Deep.bits4 : waitsOk spec_l02Deep.T4.2 spec_l02Deep.B4 = true := by kernel_rfl
def spec_l02Deep.T8 : Bool × List (List Nat × List Nat) := (true, [([], []), ([], []), ([], []), ([], []), ([2, 3], [2, 3]), ([4], [4]), ([], []), ([6], [6]), ([1, 5, 7], [1, 5, 7]), ([0, 8], [0, 8]), ([9, 8, 0, 1, 2, 3, 4, 5, 6, 7, 8, 9], [0, 9])])
def spec_l02Deep.B8 : List Nat := [0, 0, 0, 0, 12, 28, 0, 64, 254, 511, 1023]
theorem spec_l02Deep.tab8 : rtab .any (opsOf Try.f96 8) = spec_l02Deep.T8 := by kernel_rfl
theorem spec_l02Deep.bits8 : waitsOk spec_l02Deep.T8.2 spec_l02Deep.B8 = true := by kernel_rfl
theorem spec_l02Deep.calls (k : Nat) : ∀ (a0_0 : Int) (a0_1 : Int) (A0_2 : Option Addr) (c0_2 : Nat) (l0_2 : List (S43)) (a1 : Int) (a2 : Int) (r : Int) (w : World) (hr0_2 : Kd.C k43 w A0_2 l0_2.length l0_2) (hc0_2 : l0_2.length ≤ c0_2) (h : spec_l02Deep.f k a0_0 a0_1 l0_2 a1 a2 = some r),
  Calls Try.prog 96 #[.agg #[.int .i64 a0_0, .int .i64 a0_1, .slice A0_2 l0_2.length c0_2], .int .i64 a1, .int .i64 a2] w fun e w' => e = .returned (.int .i64 r) ∧ Below w.heap.size w w' := by
 induction k using Nat.strongRecOn with
 | _ k ih =>
 intro a0_0 a0_1 A0_2 c0_2 l0_2 a1 a2 r w hr0_2 hc0_2 h
 cases k with
 | zero => exact absurd h (by simp [spec_l02Deep.f])
 | succ k =>
 simp only [spec_l02Deep.f] at h
 have hu29 := Try.underlying29
 have HR0_2 := Am hr0_2
 have HC0_2 := Am hc0_2
 clear hr0_2 hc0_2
 have HB := Am (Below.refl w.heap.size w)
 have H : (if a2 = 0 then (some 1) else ((spec_l02At.f k a0_0 a0_1 l0_2 a1).bind fun t18 => (if 0 ≤ t18 then (if t18 < (l0_2.length : Int) then (spec_l02Deep.l0 k a2 0 ((rd_T43 l0_2 t18).f4) 0 a0_0 a0_1 l0_2) else (none)) else (none)))) = some r := h
 clear h
 have HC4 := Am H
 clear H
 go_enter Try.func96, Try.ntmps96
 go_upto_if 11 with ((with_reducible refine gate_dst (N := 3) rfl ?_); refine Xbx 3 #[.int .i64 a0_0, .int .i64 a0_1, .slice A0_2 l0_2.length c0_2] 29 ?_; intro gb19 hg w5 B19 GE19 hb; replace HB := Xhb hb; clear hb hg)
 have H := HC4.out
 clear HC4
 obtain ⟨c6, H⟩ | ⟨c6, H⟩ := Xiu H
 ·have c6b0 : (a2 == 0) = true := beq_iff_eq.mpr c6
  have c6b1 : (a2 != 0) = false := bne_eq_false_iff_eq.mpr c6
  clear c6
  (first | rw [c6b0] | (simp only [i64_w, i32_w]; rw [c6b0]) | skip)
  obtain rfl := Xsi H
  go_wp2
  go_ret
  exact ⟨Xe, Xi⟩
 have c6b0 : (a2 == 0) = false := beq_eq_false_iff_ne.mpr c6
 have c6b1 : (a2 != 0) = true := bne_iff_ne.mpr c6
 (first | rw [c6b0] | (simp only [i64_w, i32_w]; rw [c6b0]) | skip)
 obtain ⟨t18, A7, H⟩ := Xbi H
 try dsimp only at H
 obtain ⟨c8, H⟩ | ⟨c8, H⟩ := Xiu H
 ·have c8b0 : decide (0 ≤ t18) = true := decide_eq_true c8
  clear c8
  obtain ⟨c9b0, H⟩ := Xid H
  have H' := Am H
  clear H
  try go_wp2_with (fail)
  replace B19 := Xbd B19
  replace HB := Xhd HB
  have p20 : 0 ≤ (t18 : Int) := Xo
  have q20 : t18 < (l0_2.length : Int) := Xo
  obtain ⟨ad20, A165_4, c165_4, e20, hx20_0, hx20_1, hx20_2, hx20_3, hx20_4, hl165_4, hi165_4⟩ := at_T43 HR0_2.out t18 p20 q20
  have hw165_4 := hx20_4
  have hw165_3 := hx20_3
  have hw165_2 := hx20_2
  have hw165_1 := hx20_1
  have hw165_0 := hx20_0
  cases e20
  replace hx20_0 := Xm HB hx20_0
  replace hx20_1 := Xm HB hx20_1
  replace hx20_2 := Xm HB hx20_2
  replace hx20_3 := Xm HB hx20_3
  replace hx20_4 := Xm HB hx20_4
  have HR20_4 := Am hi165_4
  have HC20_4 := Am hl165_4
  clear hi165_4 hl165_4
  replace p20 := eq_true p20
  replace q20 := eq_true q20
  refine Sx 9 (fun w' => w'.cell? ⟨gb19, 0, none⟩ = some (.int .i64 a0_0) ∧ w'.cell? ⟨gb19, 1, none⟩ = some (.int .i64 a0_1) ∧ w'.cell? ⟨gb19, 2, none⟩ = some (.slice (some ad20) l0_2.length c0_2) ∧ w'.cell? (ad20.add ((t18).toNat * 5)) = some (.int .i64 ((rd_T43 l0_2 t18).f0)) ∧ w'.cell? ⟨(ad20.add ((t18).toNat * 5)).block, (ad20.add ((t18).toNat * 5)).off + 1, none⟩ = some (.int .i64 ((rd_T43 l0_2 t18).f1)) ∧ w'.cell? ⟨(ad20.add ((t18).toNat * 5)).block, (ad20.add ((t18).toNat * 5)).off + 2, none⟩ = some (.int .i64 ((rd_T43 l0_2 t18).f2)) ∧ w'.cell? ⟨(ad20.add ((t18).toNat * 5)).block, (ad20.add ((t18).toNat * 5)).off + 3, none⟩ = some (.string ((rd_T43 l0_2 t18).f3)) ∧ w'.cell? ⟨(ad20.add ((t18).toNat * 5)).block, (ad20.add ((t18).toNat * 5)).off + 4, none⟩ = some (.slice A165_4 ((rd_T43 l0_2 t18).f4).length c165_4)) ⟨Xk B19 0, Xk B19 1, Xk B19 2, Xn hw165_0, Xn hw165_1, Xn hw165_2, Xn hw165_3, Xn hw165_4⟩ (fun hHeld => ?_); refine with_tabW spec_l02Deep.tab4 spec_l02Deep.bits4 (fun HT_ HW_ => ?_)
  generalize w5.drew = w10 at B19 HB HR20_4 hx20_0 hx20_1 hx20_2 hx20_3 hx20_4 hHeld ⊢
  refine Pu 0 12 9 1 ?_
  refine Pu 3 15 9 9 ?_
  refine Ta 1 13 9 11 ?_
  refine Ta 2 14 9 15 ?_
  refine On 4 16 9 31 (fun K hK => ?_)
  refine Gs Try.func74 #[.agg #[.int .i64 a0_0, .int .i64 a0_1, .slice (some ad20) l0_2.length c0_2], .int .i64 a1] ?_
  with_reducible refine (spec_l02At.calls k a0_0 a0_1 _ _ l0_2 a1 t18 _ ?s1 ?s2 A7.out).mono ?_
  (case s1 => exact Xc HR0_2)
  (case s2 => exact HC0_2.out)
  rintro e w11 ⟨rfl, hb⟩
  refine ⟨_, rfl, ?_⟩
  replace B19 := Xbb B19 hb
  replace HB := Xhb hb
  try clear hb
  try clear hb2
  try clear hk
  try clear hi
  refine hK.out _ _ ⟨Xk B19 0, Xk B19 1, Xk B19 2, Xn hw165_0, Xn hw165_1, Xn hw165_2, Xn hw165_3, Xn hw165_4⟩ (fun hHeld => ?_)
  clear hK K
  refine Xno ?_
  refine Pu 5 17 9 63 ?_
  refine Pu 6 18 9 127 ?_
  refine Ta 7 19 9 255 ?_
  refine Pu 8 8 9 511 ?_
  refine Dn ?_
  try go_wp2_with (fail)
  go_loopg [7, 9] k (fun kq v7 v9 w' => ∃ (x7_1 : Int) (x9_1 : Int), v7 = .int .i64 x7_1 ∧ v9 = .int .i64 x9_1 ∧ Aside0 (spec_l02Deep.l0 kq a2 x7_1 ((rd_T43 l0_2 t18).f4) x9_1 a0_0 a0_1 l0_2 = some r) ∧ Aside0 (kq ≤ k) ∧ Aside0 (w'.heap[gb19]? = some (.cells #[.int .i64 a0_0, .int .i64 a0_1, (.slice (some ad20) l0_2.length c0_2)] 29 (0, 0))) ∧ Aside0 (Below w.heap.size w w'))
  case atStart => exact ⟨(0), (0), Xr, Xr, H', Xkr, B19, ⟨Xi⟩⟩
  clear H'
  (try clear c6); (try clear c6b0); (try clear c6b1); (try clear c8); (try clear c8b0); (try clear c9); (try clear c9b0); (try clear hx20_0); (try clear hx20_1); (try clear hx20_2); (try clear hx20_3); (try clear hx20_4); (try clear p20); (try clear q20)
  obtain ⟨x7_1, x9_1, rfl, rfl, HA, HK1, B19, HB⟩ := hrel
  cases gk with | zero => cases HA.out | succ k1 => ?_
  have H := HA.out
  clear HA
  simp only [spec_l02Deep.l0] at H
  obtain ⟨c12b0, H⟩ | ⟨c12b0, H⟩ := Xit H
  ·obtain ⟨c13b0, H⟩ := Xid H
   obtain ⟨t21, A14, H⟩ := Xbi H
   try dsimp only at H
   obtain ⟨ji15, hji15⟩ : ∃ j_ : Int, (mx x7_1 t21) = j_ := ⟨_, rfl⟩
   replace H : (spec_l02Deep.l0 k1 a2 ji15 ((rd_T43 l0_2 t18).f4) (wrap64 (x9_1 + 1)) a0_0 a0_1 l0_2) = some r := by first | (rw [hji15] at H; exact H) | (simp only [hji15] at H ⊢; exact H)
   (try rw [hji15] at A14)
   have hji15_ : (if x7_1 < t21 then t21 else x7_1) = ji15 := hji15
   have H' := Am H
   clear H
   try go_wp2_with (fail)
   replace B19 := Xbd B19
   replace HB := Xhd HB
   have p22 : 0 ≤ (x9_1 : Int) := Xo
   have q22 : x9_1 < (((rd_T43 l0_2 t18).f4).length : Int) := Xo
   obtain ⟨ad22, e22, hx22_0⟩ := Kd.at_int HR20_4.out x9_1 p22 q22
   have hw166_0 := hx22_0
   cases e22
   replace hx22_0 := Xm HB hx22_0
   replace p22 := eq_true p22
   replace q22 := eq_true q22
   refine Sx 11 (fun w' => w'.cell? ⟨gb19, 0, none⟩ = some (.int .i64 a0_0) ∧ w'.cell? ⟨gb19, 1, none⟩ = some (.int .i64 a0_1) ∧ w'.cell? ⟨gb19, 2, none⟩ = some (.slice (some ad20) l0_2.length c0_2) ∧ w'.cell? (ad22.add (x9_1).toNat) = some (.int .i64 (rd ((rd_T43 l0_2 t18).f4) x9_1))) ⟨Xk B19 0, Xk B19 1, Xk B19 2, Xn hw166_0⟩ (fun hHeld => ?_); refine with_tabW spec_l02Deep.tab8 spec_l02Deep.bits8 (fun HT_ HW_ => ?_)
   generalize wr.drew = w16 at B19 HB hx22_0 hHeld ⊢
   refine Pu 0 26 11 1 ?_
   refine Pu 2 28 11 5 ?_
   refine Pu 3 29 11 13 ?_
   refine Pu 4 30 11 29 ?_
   refine Pu 6 32 11 93 ?_
   refine Pu 7 33 11 221 ?_
   refine Ta 1 27 11 223 ?_
   refine Ta 5 31 11 255 ?_
   refine On 8 34 11 511 (fun K hK => ?_)
   refine Gs Try.func96 #[.agg #[.int .i64 a0_0, .int .i64 a0_1, .slice (some ad20) l0_2.length c0_2], .int .i64 (rd ((rd_T43 l0_2 t18).f4) x9_1), .int .i64 (wrap64 (a2 - 1))] ?_
   with_reducible refine (ih k1 (by have := HK1.out; omega) a0_0 a0_1 _ _ l0_2 (rd ((rd_T43 l0_2 t18).f4) x9_1) (wrap64 (a2 - 1)) t21 _ ?s1 ?s2 A14.out).mono ?_
   (case s1 => exact Xc HR0_2)
   (case s2 => exact HC0_2.out)
   rintro e w17 ⟨rfl, hb⟩
   refine ⟨_, rfl, ?_⟩
   replace B19 := Xbb B19 hb
   replace HB := Xhb hb
   try clear hb
   try clear hb2
   try clear hk
   try clear hi
   refine hK.out _ _ ⟨Xk B19 0, Xk B19 1, Xk B19 2, Xn hw166_0⟩ (fun hHeld => ?_)
   clear hK K
   refine Xno ?_
   refine Pu 9 35 11 1023 ?_
   refine Pu 10 7 11 2047 ?_
   refine Dn ?_
   try go_wp2_with (fail)
   go_roundg k1
   case measure => have := HK1.out; omega
   case rel => exact ⟨(ji15), (wrap64 (x9_1 + 1)), (by first | rfl | (simp; done) | (simp only [← hji15] <;> (first | rfl | simp)) | (simp [*]; done)), Xr, H', Xk1, B19, ⟨Xi⟩⟩
  obtain rfl := Xsi H
  go_wp2
  go_ret
  exact ⟨Xe, Xi⟩
 exact absurd H (by simp)
def spec_l02Has.l0 : Nat → List Int → Int → Int → Option (Bool)
 | 0, _, _, _ => none
 | k + 1, x0, x1, x5 => if x5 < (x0.length : Int) then (if 0 ≤ x5 then (if (rd x0 x5) = x1 then (some true) else (spec_l02Has.l0 k x0 x1 (wrap64 (x5 + 1)))) else (none)) else (some false)
def spec_l02Has.f (k : Nat) (l0 : List Int) (a1 : Int) : Option (Bool) := spec_l02Has.l0 k l0 a1 0
theorem spec_l02Has.calls (k : Nat) (A0 : Option Addr) (c0 : Nat) (l0 : List Int) (a1 : Int) (r : Bool) (w : World) (hr0 : Kd.C (Kd.int .i64) w A0 l0.length l0) (hc0 : l0.length ≤ c0) (h : spec_l02Has.f k l0 a1 = some r) :
  Calls Try.prog 102 #[.slice A0 l0.length c0, .int .i64 a1] w fun e w' => e = .returned (.bool r) ∧ Drawn0 w w' := by
 have HR0 := Am hr0
 have HC0 := Am hc0
 clear hr0 hc0
 have H : (spec_l02Has.l0 k l0 a1 0) = some r := h
 clear h
 have H' := Am H
 clear H
 go_enter Try.func102, Try.ntmps102
 go_wp2
 go_loopg [5] k (fun kq v5 w' => ∃ (x5_1 : Int), v5 = .int .i64 x5_1 ∧ Aside0 (spec_l02Has.l0 kq l0 a1 x5_1 = some r) ∧ Aside0 (kq ≤ k) ∧ Drawn0 w w')
 case atStart => exact ⟨(0), Xr, H', Xkr, by repeat (first | exact Drawn0.refl _ | apply Drawn0.step)⟩
 clear H'
 obtain ⟨x5_1, rfl, HA, HK1, ⟨m1, rfl⟩⟩ := hrel
 cases gk with | zero => cases HA.out | succ k1 => ?_
 have H := HA.out
 clear HA
 simp only [spec_l02Has.l0] at H
 obtain ⟨c3b0, H⟩ | ⟨c3b0, H⟩ := Xit H
 ·obtain ⟨c4b0, H⟩ := Xid H
  obtain ⟨c5, H⟩ | ⟨c5, H⟩ := Xiu H
  ·have c5b0 : ((rd l0 x5_1) == a1) = true := beq_iff_eq.mpr c5
   have c5b1 : ((rd l0 x5_1) != a1) = false := bne_eq_false_iff_eq.mpr c5
   clear c5
   obtain rfl := Xsi H
   have p10 : 0 ≤ (x5_1 : Int) := Xo
   have q10 : x5_1 < (l0.length : Int) := Xo
   obtain ⟨ad10, e10, hx10_0⟩ := Kd.at_int HR0.out x5_1 p10 q10
   cases e10
   replace p10 := eq_true p10
   replace q10 := eq_true q10
   go_wp2
   go_ret
   exact ⟨Xr, Xdr⟩
  have c5b0 : ((rd l0 x5_1) == a1) = false := beq_eq_false_iff_ne.mpr c5
  have c5b1 : ((rd l0 x5_1) != a1) = true := bne_iff_ne.mpr c5
  have H' := Am H
  clear H
  have p10 : 0 ≤ (x5_1 : Int) := Xo
  have q10 : x5_1 < (l0.length : Int) := Xo
  obtain ⟨ad10, e10, hx10_0⟩ := Kd.at_int HR0.out x5_1 p10 q10
  cases e10
  replace p10 := eq_true p10
  replace q10 := eq_true q10
  go_wp2
  go_roundg k1
  case measure => have := HK1.out; omega
  case rel => exact ⟨(wrap64 (x5_1 + 1)), Xr, H', Xk1, by repeat (first | exact Drawn0.refl _ | apply Drawn0.step)⟩
 obtain rfl := Xsi H
 go_wp2
 go_ret
 exact ⟨Xr, Xdr⟩
def spec_l02Kind.f (a0 : Int) : Option (Bool) := (spec_l01In.f a0 1 8).bind fun t10 => (some t10)
theorem spec_l02Kind.calls (a0 : Int) (r : Bool) (w : World) (h : spec_l02Kind.f a0 = some r) :
  Calls Try.prog 149 #[.int .i64 a0] w fun e w' => e = .returned (.bool r) ∧ Drawn0 w w' := by
 have H : ((spec_l01In.f a0 1 8).bind fun t10 => (some t10)) = some r := h
 clear h
 obtain ⟨t10, A2, H⟩ := Xbi H
 try dsimp only at H
 obtain rfl := Xsi H
 go_enter Try.func149, Try.ntmps149
 go_wp2_with (first | ((with_reducible refine gate_callee (f := 84) rfl ?_); refine Xgo 4 Try.func84 #[.int .i64 a0, .int .i64 1, .int .i64 8] ?_; (with_reducible refine (spec_l01In.calls a0 1 8 t10 _ A2.out).mono ?_); rintro e w' ⟨rfl, ⟨nd, rfl⟩⟩; refine ⟨_, rfl, ?_⟩))
 go_ret
 exact ⟨Xr, Xdr⟩
def spec_l02Node.f (a0_0 : Int) (a0_1 : Int) (a0_2 : Int) (a0_3 : ByteArray) (l0_4 : List Int) (a1 : Int) : Option (Bool) := (spec_l01In.f a0_0 1 (wrap64 (a1 - 1))).bind fun t10 => (if t10 = true then ((spec_l02Kind.f a0_1).bind fun t11 => (if t11 = true then ((spec_l01In.f a0_2 0 99).bind fun t12 => (if t12 = true then (if (a0_3.size : Int) ≤ 20 then (some (decide ((l0_4.length : Int) ≤ 12))) else (some false)) else (some false))) else (some false))) else (some false))
theorem spec_l02Node.calls (a0_0 : Int) (a0_1 : Int) (a0_2 : Int) (a0_3 : ByteArray) (A0_4 : Option Addr) (c0_4 : Nat) (l0_4 : List Int) (a1 : Int) (r : Bool) (w : World) (hr0_4 : Kd.C (Kd.int .i64) w A0_4 l0_4.length l0_4) (hc0_4 : l0_4.length ≤ c0_4) (h : spec_l02Node.f a0_0 a0_1 a0_2 a0_3 l0_4 a1 = some r) :
  Calls Try.prog 128 #[.agg #[.int .i64 a0_0, .int .i64 a0_1, .int .i64 a0_2, .string a0_3, .slice A0_4 l0_4.length c0_4], .int .i64 a1] w fun e w' => e = .returned (.bool r) ∧ Below w.heap.size w w' := by
 have hu43 := Try.underlying43
 have HR0_4 := Am hr0_4
 have HC0_4 := Am hc0_4
 clear hr0_4 hc0_4
 have HB := Am (Below.refl w.heap.size w)
 have H : ((spec_l01In.f a0_0 1 (wrap64 (a1 - 1))).bind fun t17 => (if t17 = true then ((spec_l02Kind.f a0_1).bind fun t18 => (if t18 = true then ((spec_l01In.f a0_2 0 99).bind fun t19 => (if t19 = true then (if (a0_3.size : Int) ≤ 20 then (some (decide ((l0_4.length : Int) ≤ 12))) else (some false)) else (some false))) else (some false))) else (some false))) = some r := h
 clear h
 have HC3 := Am H
 clear H
 go_enter Try.func128, Try.ntmps128
 go_upto_region 1 with ((with_reducible refine gate_dst (N := 2) rfl ?_); (try (refine gate_guard (by rfl) ?_; dsimp only)); refine Xbx 2 #[.int .i64 a0_0, .int .i64 a0_1, .int .i64 a0_2, .string a0_3, .slice A0_4 l0_4.length c0_4] 43 ?_; intro gb20 hg w4 B20 GE20 hb; replace HB := Xhb hb; clear hb hg)
 have H := HC3.out
 clear HC3
 obtain ⟨t17, A5, H⟩ := Xbi H
 try dsimp only at H
 by_cases c6 : t17 = true
 ·subst c6
  try rw [if_pos rfl] at H
  obtain ⟨t18, A7, H⟩ := Xbi H
  try dsimp only at H
  by_cases c8 : t18 = true
  ·subst c8
   try rw [if_pos rfl] at H
   obtain ⟨t19, A9, H⟩ := Xbi H
   try dsimp only at H
   by_cases c10 : t19 = true
   ·subst c10
    try rw [if_pos rfl] at H
    obtain ⟨c11, H⟩ | ⟨c11, H⟩ := Xiu H
    ·have c11b0 : decide ((a0_3.size : Int) ≤ 20) = true := decide_eq_true c11
     have c11b1 : decide (a0_3.size ≤ 20) = true := decide_eq_true (by omega)
     clear c11
     obtain rfl := Xsi H
     obtain ⟨Z12_0, Z12_1, Z12_2, Z12_3, Z12_4⟩ := Xc5 B20
     go_wp2_with (first | ((with_reducible refine gate_callee (f := 84) rfl ?_); refine Xgo 9 Try.func84 #[.int .i64 a0_0, .int .i64 1, .int .i64 (wrap64 (a1 - 1))] ?_; (with_reducible refine (spec_l01In.calls a0_0 1 (wrap64 (a1 - 1)) true _ A5.out).mono ?_); rintro e w' ⟨rfl, ⟨nd, rfl⟩⟩; refine ⟨_, rfl, ?_⟩) | (go_at_call 149; (with_reducible refine (spec_l02Kind.calls a0_1 true _ A7.out).mono ?_); rintro e w' ⟨rfl, ⟨nd, rfl⟩⟩) | (go_at_call 84; (with_reducible refine (spec_l01In.calls a0_2 0 99 true _ A9.out).mono ?_); rintro e w' ⟨rfl, ⟨nd, rfl⟩⟩))
     go_ret
     exact ⟨Xe, Xi⟩
    have c11b0 : decide ((a0_3.size : Int) ≤ 20) = false := decide_eq_false c11
    have c11b1 : decide (a0_3.size ≤ 20) = false := decide_eq_false (by omega)
    clear c11
    obtain rfl := Xsi H
    obtain ⟨Z13_0, Z13_1, Z13_2, Z13_3, Z13_4⟩ := Xc5 B20
    go_wp2_with (first | ((with_reducible refine gate_callee (f := 84) rfl ?_); refine Xgo 9 Try.func84 #[.int .i64 a0_0, .int .i64 1, .int .i64 (wrap64 (a1 - 1))] ?_; (with_reducible refine (spec_l01In.calls a0_0 1 (wrap64 (a1 - 1)) true _ A5.out).mono ?_); rintro e w' ⟨rfl, ⟨nd, rfl⟩⟩; refine ⟨_, rfl, ?_⟩) | (go_at_call 149; (with_reducible refine (spec_l02Kind.calls a0_1 true _ A7.out).mono ?_); rintro e w' ⟨rfl, ⟨nd, rfl⟩⟩) | (go_at_call 84; (with_reducible refine (spec_l01In.calls a0_2 0 99 true _ A9.out).mono ?_); rintro e w' ⟨rfl, ⟨nd, rfl⟩⟩))
    go_ret
    exact ⟨Xe, Xi⟩
   replace c10 := Xbf c10
   subst c10
   try rw [if_neg Xft] at H
   obtain rfl := Xsi H
   obtain ⟨Z14_0, Z14_1, Z14_2, Z14_3, Z14_4⟩ := Xc5 B20
   go_wp2_with (first | ((with_reducible refine gate_callee (f := 84) rfl ?_); refine Xgo 9 Try.func84 #[.int .i64 a0_0, .int .i64 1, .int .i64 (wrap64 (a1 - 1))] ?_; (with_reducible refine (spec_l01In.calls a0_0 1 (wrap64 (a1 - 1)) true _ A5.out).mono ?_); rintro e w' ⟨rfl, ⟨nd, rfl⟩⟩; refine ⟨_, rfl, ?_⟩) | (go_at_call 149; (with_reducible refine (spec_l02Kind.calls a0_1 true _ A7.out).mono ?_); rintro e w' ⟨rfl, ⟨nd, rfl⟩⟩) | (go_at_call 84; (with_reducible refine (spec_l01In.calls a0_2 0 99 false _ A9.out).mono ?_); rintro e w' ⟨rfl, ⟨nd, rfl⟩⟩))
   go_ret
   exact ⟨Xe, Xi⟩
  replace c8 := Xbf c8
  subst c8
  try rw [if_neg Xft] at H
  obtain rfl := Xsi H
  obtain ⟨Z15_0, Z15_1, Z15_2, Z15_3, Z15_4⟩ := Xc5 B20
  go_wp2_with (first | ((with_reducible refine gate_callee (f := 84) rfl ?_); refine Xgo 9 Try.func84 #[.int .i64 a0_0, .int .i64 1, .int .i64 (wrap64 (a1 - 1))] ?_; (with_reducible refine (spec_l01In.calls a0_0 1 (wrap64 (a1 - 1)) true _ A5.out).mono ?_); rintro e w' ⟨rfl, ⟨nd, rfl⟩⟩; refine ⟨_, rfl, ?_⟩) | (go_at_call 149; (with_reducible refine (spec_l02Kind.calls a0_1 false _ A7.out).mono ?_); rintro e w' ⟨rfl, ⟨nd, rfl⟩⟩))
  go_ret
  exact ⟨Xe, Xi⟩
 replace c6 := Xbf c6
 subst c6
 try rw [if_neg Xft] at H
 obtain rfl := Xsi H
 obtain ⟨Z16_0, Z16_1, Z16_2, Z16_3, Z16_4⟩ := Xc5 B20
 go_wp2_with (first | ((with_reducible refine gate_callee (f := 84) rfl ?_); refine Xgo 9 Try.func84 #[.int .i64 a0_0, .int .i64 1, .int .i64 (wrap64 (a1 - 1))] ?_; (with_reducible refine (spec_l01In.calls a0_0 1 (wrap64 (a1 - 1)) false _ A5.out).mono ?_); rintro e w' ⟨rfl, ⟨nd, rfl⟩⟩; refine ⟨_, rfl, ?_⟩))
 go_ret
 exact ⟨Xe, Xi⟩
mutual
def spec_l02Nodes.l0 : Nat → List Int → Int → Int → Int → List (S43) → Option (Bool)
 | 0, _, _, _, _, _ => none
 | k + 1, x3, x4, x175000, x175001, x175002 => if x4 < (x175002.length : Int) then (if 0 ≤ x4 then ((spec_l02Node.f ((rd_T43 x175002 x4).f0) ((rd_T43 x175002 x4).f1) ((rd_T43 x175002 x4).f2) ((rd_T43 x175002 x4).f3) ((rd_T43 x175002 x4).f4) x175001).bind fun t10 => (if t10 = true then (if x4 > 0 then (if 0 ≤ (wrap64 (x4 - 1)) then (if (wrap64 (x4 - 1)) < (x175002.length : Int) then (spec_l02Nodes.j1 k x3 x4 (decide (((rd_T43 x175002 x4).f0) ≤ ((rd_T43 x175002 (wrap64 (x4 - 1))).f0))) x175000 x175001 x175002 ((rd_T43 x175002 x4).f0) ((rd_T43 x175002 x4).f1) ((rd_T43 x175002 x4).f2) ((rd_T43 x175002 x4).f3) ((rd_T43 x175002 x4).f4)) else (none)) else (none)) else (spec_l02Nodes.j1 k x3 x4 false x175000 x175001 x175002 ((rd_T43 x175002 x4).f0) ((rd_T43 x175002 x4).f1) ((rd_T43 x175002 x4).f2) ((rd_T43 x175002 x4).f3) ((rd_T43 x175002 x4).f4))) else (spec_l02Nodes.j1 k x3 x4 true x175000 x175001 x175002 ((rd_T43 x175002 x4).f0) ((rd_T43 x175002 x4).f1) ((rd_T43 x175002 x4).f2) ((rd_T43 x175002 x4).f3) ((rd_T43 x175002 x4).f4)))) else (none)) else (if (x3.length : Int) = (wrap64 ((x175002.length : Int) - 1)) then ((spec_l02At.f k x175000 x175001 x175002 x175000).bind fun t11 => (some (decide (t11 ≥ 0)))) else (some false))
def spec_l02Nodes.j1 : Nat → List Int → Int → Bool → Int → Int → List (S43) → Int → Int → Int → ByteArray → List Int → Option (Bool)
 | 0, _, _, _, _, _, _, _, _, _, _, _ => none
 | k + 1, x3, x4, x40, x175000, x175001, x175002, x181000, x181001, x181002, x181003, x181004 => if x40 = true then (some false) else (spec_l02Nodes.l1 k x3 x4 0 x175000 x175001 x175002 x181000 x181001 x181002 x181003 x181004)
def spec_l02Nodes.l1 : Nat → List Int → Int → Int → Int → Int → List (S43) → Int → Int → Int → ByteArray → List Int → Option (Bool)
 | 0, _, _, _, _, _, _, _, _, _, _, _ => none
 | k + 1, x3, x4, x6, x175000, x175001, x175002, x181000, x181001, x181002, x181003, x181004 => if x6 < (x181004.length : Int) then (if 0 ≤ x6 then (if (rd x181004 x6) = x175000 then (some false) else ((spec_l02Has.f k x3 (rd x181004 x6)).bind fun t10 => (if t10 = true then (some false) else ((spec_l02At.f k x175000 x175001 x175002 (rd x181004 x6)).bind fun t11 => (if t11 < 0 then (some false) else (if x3.length < 17592186044416 then (spec_l02Nodes.l1 k (x3 ++ [rd x181004 x6]) x4 (wrap64 (x6 + 1)) x175000 x175001 x175002 x181000 x181001 x181002 x181003 x181004) else (none))))))) else (none)) else (spec_l02Nodes.l0 k x3 (wrap64 (x4 + 1)) x175000 x175001 x175002)
end
def spec_l02Nodes.f (k : Nat) (a0_0 : Int) (a0_1 : Int) (l0_2 : List (S43)) : Option (Bool) := spec_l02Nodes.l0 k (([] : List Int)) 0 a0_0 a0_1 l0_2
def spec_l02Nodes.T6 : Bool × List (List Nat × List Nat) := (true, [([], []), ([], []), ([1], [1]), ([0, 2], [0, 2]), ([3], [3]), ([4, 3], [4]), ([5], [5]), ([6, 5], [5, 6]), ([7, 5, 5], [5, 7]), ([8], [8]), ([9, 8], [8, 9]), ([8], [8]), ([11, 8], [8, 11]), ([8], [8]), ([13, 8], [8, 13]), ([12, 14, 8], [8, 12, 14]), ([15, 8], [8, 15]), ([16, 8], [8, 16]), ([10, 17, 8], [8, 10, 17]), ([8, 18, 5], [5, 8, 18]), ([5, 19], [5, 19])])
def spec_l02Nodes.B6 : List Nat := [0, 0, 2, 7, 15, 31, 63, 127, 255, 511, 1023, 511, 2559, 511, 8703, 31231, 63999, 129535, 262143, 524287, 1048575]
theorem spec_l02Nodes.tab6 : rtab .any (opsOf Try.f99 6) = spec_l02Nodes.T6 := by kernel_rfl
theorem spec_l02Nodes.bits6 : waitsOk spec_l02Nodes.T6.2 spec_l02Nodes.B6 = true := by kernel_rfl
def spec_l02Nodes.T11 : Bool × List (List Nat × List Nat) := (true, [([], []), ([0], [0]), ([], []), ([1, 2], [1, 2]), ([3], [3]), ([], []), ([5], [5]), ([4, 6], [4, 6]), ([7], [7]), ([8], [8]), ([8], [8]), ([10, 8], [8, 10]), ([8], [8]), ([11, 12, 8], [8, 11, 12]), ([13, 8], [8, 13]), ([9, 14, 8, 8], [8, 9, 14]), ([8, 15], [8, 15]), ([16, 15], [16]), ([17], [17]), ([17], [17]), ([19, 17], [17, 19]), ([17], [17]), ([20, 21, 17], [17, 20, 21]), ([22, 17], [17, 22]), ([18, 23, 17, 17], [17, 18, 23]), ([24, 17], [17, 24]), ([17, 25], [17, 25])])
def spec_l02Nodes.B11 : List Nat := [0, 1, 0, 7, 15, 0, 32, 127, 255, 511, 511, 1535, 511, 7679, 15871, 32767, 65535, 131071, 262143, 262143, 786431, 262143, 3932159, 8126463, 16777215, 33554431, 67108863]
theorem spec_l02Nodes.tab11 : rtab .any (opsOf Try.f99 11) = spec_l02Nodes.T11 := by kernel_rfl
theorem spec_l02Nodes.bits11 : waitsOk spec_l02Nodes.T11.2 spec_l02Nodes.B11 = true := by kernel_rfl
theorem spec_l02Nodes.calls (k : Nat) (a0_0 : Int) (a0_1 : Int) (A0_2 : Option Addr) (c0_2 : Nat) (l0_2 : List (S43)) (r : Bool) (w : World) (hr0_2 : Kd.C k43 w A0_2 l0_2.length l0_2) (hc0_2 : l0_2.length ≤ c0_2) (h : spec_l02Nodes.f k a0_0 a0_1 l0_2 = some r) :
  Calls Try.prog 99 #[.agg #[.int .i64 a0_0, .int .i64 a0_1, .slice A0_2 l0_2.length c0_2]] w fun e w' => e = .returned (.bool r) ∧ Below w.heap.size w w' := by
 have hu29 := Try.underlying29
 have hu43 := Try.underlying43
 have HR0_2 := Am hr0_2
 have HC0_2 := Am hc0_2
 clear hr0_2 hc0_2
 have HB := Am (Below.refl w.heap.size w)
 have H : (spec_l02Nodes.l0 k (([] : List Int)) 0 a0_0 a0_1 l0_2) = some r := h
 clear h
 obtain ⟨y59, hy59⟩ : ∃ y_ : List Int, y_ = (([] : List Int)) := ⟨_, rfl⟩
 replace H : (spec_l02Nodes.l0 k y59 0 a0_0 a0_1 l0_2) = some r := by first | (rw [hy59]; with_reducible exact H) | (have H2_ := (Option.bind_some _ _).symm.trans H; rw [hy59]; with_reducible exact H2_) | (have H2_ := (Option.bind_some _ _).symm.trans H; with_reducible exact H2_) | with_reducible exact H | (rw [hy59]; exact H) | exact H
 have Ny59 := Am hy59
 clear hy59
 have H' := Am H
 clear H
 go_enter Try.func99, Try.ntmps99
 go_wp2_with (first | ((with_reducible refine gate_dst (N := 1) rfl ?_); refine Xbx 1 #[.int .i64 a0_0, .int .i64 a0_1, .slice A0_2 l0_2.length c0_2] 29 ?_; intro gb60 hg w2 B60 GE60 hb; replace HB := Xhb hb; clear hb hg) | ((with_reducible refine gate_dst (N := 7) rfl ?_); refine Kd.R_lit (Kd.int .i64) _ 3 ?hg (N := 7) ?hd (xs := ([] : List Int)) (inner := []) (ok := fun _ => True) (okp := fun _ => True) ?hr ?hp (fun _ hk => hk) trivial (Below.refl _ _) (Nat.le_refl _) (by simp) ?_; (case hd => rfl); (case hg => rfl); (case hr => first | (go_simp; done) | (go_simp; rfl)); (case hp => exact (Reps.none _ _)); intro v176 w3 ho4 hb hg_ hnew_; clear hg_ hnew_; (first | rw [← Ny59.out] at ho4 | (simp only [Int.reduceToNat] at ho4; rw [← Ny59.out] at ho4)); have HO61 := Am (Kd.R_lower ho4 (below_size Xi)); replace B60 := Xbb B60 hb; replace HB := Xhb hb; clear hb ho4))
 go_loopg [3, 4] k (fun kq v3 v4 w' => ∃ (x3_1 : List Int) (x4_1 : Int), v4 = .int .i64 x4_1 ∧ Aside0 (spec_l02Nodes.l0 kq x3_1 x4_1 a0_0 a0_1 l0_2 = some r) ∧ Aside0 (kq ≤ k) ∧ Aside0 (Kd.R (Kd.int .i64) 3 w' w.heap.size (fun _ => True) v3 x3_1) ∧ Aside0 (w'.heap[gb60]? = some (.cells #[.int .i64 a0_0, .int .i64 a0_1, (.slice A0_2 l0_2.length c0_2)] 29 (0, 0))) ∧ Aside0 (Below w.heap.size w w'))
 case atStart => exact ⟨(y59), (0), Xr, H', Xkr, (Xp' HO61), (Xp B60), ⟨Xi⟩⟩
 clear H'
 obtain ⟨x3_1, x4_1, rfl, HA, HK1, O_3, B60, HB⟩ := hrel
 cases gk with | zero => cases HA.out | succ k1 => ?_
 have H := HA.out
 clear HA
 simp only [spec_l02Nodes.l0] at H
 obtain ⟨c5b0, H⟩ | ⟨c5b0, H⟩ := Xit H
 ·obtain ⟨c6b0, H⟩ := Xid H
  have HC7 := Am H
  clear H
  obtain ⟨Z8_0, Z8_1, Z8_2⟩ := Xc3 B60
  obtain ⟨F8_0, F8_1, F8_2⟩ := Xf3 B60
  obtain ⟨ad62, A179_4, c179_4, e62, p62, q62, hx62_0, hx62_1, hx62_2, hx62_3, hx62_4, HC62_4, HR62_4⟩ := at_B43 HR0_2 x4_1 Xa Xa HB
  cases e62
  go_upto_region 6 with (first | ((with_reducible refine gate_dst (N := 5) rfl ?_); refine Xbox 5 #[.int .i64 0, .int .i64 0, .int .i64 0, .string (⟨#[]⟩ : ByteArray), .slice none 0 0] 43 ?_; intro gb63 hg w9 hbox hb; replace O_3 := Am (Kd.R_below (Xq O_3) hb); have B63 := Am (hbox); have GE63 := Xge hg Xi; replace HB := Xhb hb; have NB60_63 := Xnb hg B60; have NB63_60 := Xns NB60_63; replace B60 := Xbb B60 hb; clear hb hbox hg; have hnb10 := NB63_60.out; have hnc10 := NB60_63.out; obtain ⟨Z11_0, Z11_1, Z11_2, Z11_3, Z11_4⟩ := Xc5 B63; obtain ⟨F11_0, F11_1, F11_2, F11_3, F11_4⟩ := Xf5 B63) | ((with_reducible refine gate_store (t := 43) (p := 5) rfl ?_); refine store_event (t := 43) (p := 5) (v := ?vo_w12) (w1 := (((((w9.setCell ⟨gb63, 0, none⟩ (.int .i64 ((rd_T43 l0_2 x4_1).f0))).setCell ⟨gb63, 1, none⟩ (.int .i64 ((rd_T43 l0_2 x4_1).f1))).setCell ⟨gb63, 2, none⟩ (.int .i64 ((rd_T43 l0_2 x4_1).f2))).setCell ⟨gb63, 3, none⟩ (.string ((rd_T43 l0_2 x4_1).f3))).setCell ⟨gb63, 4, none⟩ (.slice A179_4 ((rd_T43 l0_2 x4_1).f4).length c179_4))) ?hg ?ho ?hn ?hr ?_; (case ho => rfl); (case hg => rfl); (case hn => rfl); (case hr => first | (go_simp; done) | (go_simp; rfl)); intro w12 hw; have n0_ : Aside0 (Kd.R (Kd.int .i64) 3 w12 w.heap.size (fun _ => True) u3 x3_1) := ⟨(by rw [hw]; exact (by (with_reducible repeat (first | apply Kd.R_alloc | apply Kd.R_drewN | apply Kd.R_drew)); exact Kd.R_mono (Kd.R_far (p := ⟨gb63, 4, none⟩) (Kd.R_far (p := ⟨gb63, 3, none⟩) (Kd.R_far (p := ⟨gb63, 2, none⟩) (Kd.R_far (p := ⟨gb63, 1, none⟩) (Kd.R_far (p := ⟨gb63, 0, none⟩) (Kd.R_types O_3.out B63.out (by decide)) (fun _ hk => hk.2) (.int .i64 ((rd_T43 l0_2 x4_1).f0))) (fun _ hk => hk.2) (.int .i64 ((rd_T43 l0_2 x4_1).f1))) (fun _ hk => hk.2) (.int .i64 ((rd_T43 l0_2 x4_1).f2))) (fun _ hk => hk.2) (.string ((rd_T43 l0_2 x4_1).f3))) (fun _ hk => hk.2) (.slice A179_4 ((rd_T43 l0_2 x4_1).f4).length c179_4)) (fun _ hk => trivial)))⟩; have n1_ : Aside0 (w12.heap[gb60]? = some (.cells #[.int .i64 a0_0, .int .i64 a0_1, .slice (some ad62) l0_2.length c0_2] 29 (0, 0))) := ⟨(by rw [hw]; exact (by refine Xu ?_; refine blk_far ?_ NB60_63.out _; refine Xu ?_; refine blk_far ?_ NB60_63.out _; refine Xu ?_; refine blk_far ?_ NB60_63.out _; refine Xu ?_; refine blk_far ?_ NB60_63.out _; refine Xu ?_; refine blk_far ?_ NB60_63.out _; refine Xu ?_; exact B60.out))⟩; have n2_ : Aside0 (w12.heap[gb63]? = some (.cells #[.int .i64 ((rd_T43 l0_2 x4_1).f0), .int .i64 ((rd_T43 l0_2 x4_1).f1), .int .i64 ((rd_T43 l0_2 x4_1).f2), .string ((rd_T43 l0_2 x4_1).f3), .slice A179_4 ((rd_T43 l0_2 x4_1).f4).length c179_4] 43 (0, 0))) := ⟨(by rw [hw]; exact (by refine Xu ?_; refine blk_put (cs := #[.int .i64 ((rd_T43 l0_2 x4_1).f0), .int .i64 ((rd_T43 l0_2 x4_1).f1), .int .i64 ((rd_T43 l0_2 x4_1).f2), .string ((rd_T43 l0_2 x4_1).f3), .slice none 0 0]) ?_ 4 _ rfl; refine Xu ?_; refine blk_put (cs := #[.int .i64 ((rd_T43 l0_2 x4_1).f0), .int .i64 ((rd_T43 l0_2 x4_1).f1), .int .i64 ((rd_T43 l0_2 x4_1).f2), .string (⟨#[]⟩ : ByteArray), .slice none 0 0]) ?_ 3 _ rfl; refine Xu ?_; refine blk_put (cs := #[.int .i64 ((rd_T43 l0_2 x4_1).f0), .int .i64 ((rd_T43 l0_2 x4_1).f1), .int .i64 0, .string (⟨#[]⟩ : ByteArray), .slice none 0 0]) ?_ 2 _ rfl; refine Xu ?_; refine blk_put (cs := #[.int .i64 ((rd_T43 l0_2 x4_1).f0), .int .i64 0, .int .i64 0, .string (⟨#[]⟩ : ByteArray), .slice none 0 0]) ?_ 1 _ rfl; refine Xu ?_; refine blk_put (cs := #[.int .i64 0, .int .i64 0, .int .i64 0, .string (⟨#[]⟩ : ByteArray), .slice none 0 0]) ?_ 0 _ rfl; refine Xu ?_; exact B63.out))⟩; have n3_ : Aside0 (Below w.heap.size w w12) := ⟨(by rw [hw]; exact Xi)⟩; clear hw; clear O_3; clear B60; clear B63; clear HB; have O_3 := n0_; have B60 := n1_; have B63 := n2_; have HB := n3_; clear n0_ n1_ n2_ n3_))
  (try simp only [XW.q0, XW.q1, XW.q2])
  go_cut [40] (fun v40 wc => ∃ (kq : Nat) (x40_6 : Bool), v40 = .bool x40_6 ∧ Aside0 (spec_l02Nodes.j1 kq x3_1 x4_1 x40_6 a0_0 a0_1 l0_2 ((rd_T43 l0_2 x4_1).f0) ((rd_T43 l0_2 x4_1).f1) ((rd_T43 l0_2 x4_1).f2) ((rd_T43 l0_2 x4_1).f3) ((rd_T43 l0_2 x4_1).f4) = some r) ∧ Aside0 (kq ≤ k1) ∧ Aside0 (Kd.R (Kd.int .i64) 3 wc w.heap.size (fun _ => True) u3 x3_1) ∧ Aside0 (wc.heap[gb60]? = some (.cells #[.int .i64 a0_0, .int .i64 a0_1, (.slice (some ad62) l0_2.length c0_2)] 29 (0, 0))) ∧ Aside0 (wc.heap[gb63]? = some (.cells #[.int .i64 ((rd_T43 l0_2 x4_1).f0), .int .i64 ((rd_T43 l0_2 x4_1).f1), .int .i64 ((rd_T43 l0_2 x4_1).f2), .string ((rd_T43 l0_2 x4_1).f3), (.slice A179_4 ((rd_T43 l0_2 x4_1).f4).length c179_4)] 43 (0, 0))) ∧ Aside0 (Below w.heap.size w wc))
  case first =>
   have H := HC7.out
   clear HC7
   obtain ⟨t65, A13, H⟩ := Xbi H
   try dsimp only at H
   by_cases c14 : t65 = true
   ·subst c14
    try rw [if_pos rfl] at H
    obtain ⟨c15, H⟩ | ⟨c15, H⟩ := Xiu H
    ·have c15b0 : decide (0 < x4_1) = true := decide_eq_true c15
     clear c15
     (first | rw [c15b0] | (simp only [i64_w, i32_w]; rw [c15b0]) | skip)
     obtain ⟨ji16, hji16⟩ : ∃ j_ : Int, (wrap64 (x4_1 - 1)) = j_ := ⟨_, rfl⟩
     replace H : (if 0 ≤ (ji16) then (if (ji16) < (l0_2.length : Int) then (spec_l02Nodes.j1 k1 x3_1 x4_1 (decide (((rd_T43 l0_2 x4_1).f0) ≤ ((rd_T43 l0_2 (ji16)).f0))) a0_0 a0_1 l0_2 ((rd_T43 l0_2 x4_1).f0) ((rd_T43 l0_2 x4_1).f1) ((rd_T43 l0_2 x4_1).f2) ((rd_T43 l0_2 x4_1).f3) ((rd_T43 l0_2 x4_1).f4)) else (none)) else (none)) = some r := by first | (rw [hji16] at H; exact H) | (simp only [hji16] at H ⊢; exact H)
     (try rw [hji16] at A13)
     have hji16w : (IntKind.i64.wrap (x4_1 - 1)) = ji16 := (i64_w _).trans hji16
     obtain ⟨c17b0, H⟩ := Xid H
     obtain ⟨c18b0, H⟩ := Xid H
     have H' := Am H
     clear H
     try go_wp2_with (fail)
     replace O_3 := Am (Kd.R_drew O_3.out)
     replace B60 := Xbd B60
     replace B63 := Xbd B63
     replace HB := Xhd HB
     have p66 : 0 ≤ ((ji16) : Int) := Xo
     have q66 : (ji16) < (l0_2.length : Int) := Xo
     obtain ⟨ad66, A182_4, c182_4, e66, hx66_0, hx66_1, hx66_2, hx66_3, hx66_4, hl182_4, hi182_4⟩ := at_T43 HR0_2.out (ji16) p66 q66
     have hw182_4 := hx66_4
     have hw182_3 := hx66_3
     have hw182_2 := hx66_2
     have hw182_1 := hx66_1
     have hw182_0 := hx66_0
     obtain rfl : ad62 = ad66 := (by injection e66)
     replace hx66_0 := Xm HB hx66_0
     replace hx66_1 := Xm HB hx66_1
     replace hx66_2 := Xm HB hx66_2
     replace hx66_3 := Xm HB hx66_3
     replace hx66_4 := Xm HB hx66_4
     have HR66_4 := Am hi182_4
     have HC66_4 := Am hl182_4
     clear hi182_4 hl182_4
     replace p66 := eq_true p66
     replace q66 := eq_true q66
     refine Sx 21 (fun w' => w'.cell? ⟨gb63, 0, none⟩ = some (.int .i64 ((rd_T43 l0_2 x4_1).f0)) ∧ w'.cell? ⟨gb63, 1, none⟩ = some (.int .i64 ((rd_T43 l0_2 x4_1).f1)) ∧ w'.cell? ⟨gb63, 2, none⟩ = some (.int .i64 ((rd_T43 l0_2 x4_1).f2)) ∧ w'.cell? ⟨gb63, 3, none⟩ = some (.string ((rd_T43 l0_2 x4_1).f3)) ∧ w'.cell? ⟨gb63, 4, none⟩ = some (.slice A179_4 ((rd_T43 l0_2 x4_1).f4).length c179_4) ∧ w'.cell? ⟨gb60, 0, none⟩ = some (.int .i64 a0_0) ∧ w'.cell? ⟨gb60, 1, none⟩ = some (.int .i64 a0_1) ∧ w'.cell? ⟨gb60, 2, none⟩ = some (.slice (some ad62) l0_2.length c0_2) ∧ w'.cell? (ad62.add (((ji16)).toNat * 5)) = some (.int .i64 ((rd_T43 l0_2 (ji16)).f0)) ∧ w'.cell? ⟨(ad62.add (((ji16)).toNat * 5)).block, (ad62.add (((ji16)).toNat * 5)).off + 1, none⟩ = some (.int .i64 ((rd_T43 l0_2 (ji16)).f1)) ∧ w'.cell? ⟨(ad62.add (((ji16)).toNat * 5)).block, (ad62.add (((ji16)).toNat * 5)).off + 2, none⟩ = some (.int .i64 ((rd_T43 l0_2 (ji16)).f2)) ∧ w'.cell? ⟨(ad62.add (((ji16)).toNat * 5)).block, (ad62.add (((ji16)).toNat * 5)).off + 3, none⟩ = some (.string ((rd_T43 l0_2 (ji16)).f3)) ∧ w'.cell? ⟨(ad62.add (((ji16)).toNat * 5)).block, (ad62.add (((ji16)).toNat * 5)).off + 4, none⟩ = some (.slice A182_4 ((rd_T43 l0_2 (ji16)).f4).length c182_4)) ⟨Xk B63 0, Xk B63 1, Xk B63 2, Xk B63 3, Xk B63 4, Xk B60 0, Xk B60 1, Xk B60 2, Xn hw182_0, Xn hw182_1, Xn hw182_2, Xn hw182_3, Xn hw182_4⟩ (fun hHeld => ?_); refine with_tabW spec_l02Nodes.tab6 spec_l02Nodes.bits6 (fun HT_ HW_ => ?_)
     generalize w12.drew = w19 at O_3 B60 B63 HB HR66_4 hx66_0 hx66_1 hx66_2 hx66_3 hx66_4 hHeld ⊢
     refine Pu 1 21 21 2 ?_
     refine Ta 0 20 21 3 ?_
     refine Ta 2 22 21 7 ?_
     refine On 3 23 21 15 (fun K hK => ?_)
     refine Gs Try.func128 #[.agg #[.int .i64 ((rd_T43 l0_2 x4_1).f0), .int .i64 ((rd_T43 l0_2 x4_1).f1), .int .i64 ((rd_T43 l0_2 x4_1).f2), .string ((rd_T43 l0_2 x4_1).f3), .slice A179_4 ((rd_T43 l0_2 x4_1).f4).length c179_4], .int .i64 a0_1] ?_
     with_reducible refine (spec_l02Node.calls ((rd_T43 l0_2 x4_1).f0) ((rd_T43 l0_2 x4_1).f1) ((rd_T43 l0_2 x4_1).f2) ((rd_T43 l0_2 x4_1).f3) _ _ ((rd_T43 l0_2 x4_1).f4) a0_1 true _ ?s1 ?s2 A13.out).mono ?_
     (case s1 => exact Xc HR62_4)
     (case s2 => exact HC62_4.out)
     rintro e w20 ⟨rfl, hb⟩
     refine ⟨_, rfl, ?_⟩
     replace O_3 := Am (Kd.R_below (Xq O_3) hb)
     replace B60 := Xbb B60 hb
     replace B63 := Xbb B63 hb
     replace HB := Xhb hb
     try clear hb
     try clear hb2
     try clear hk
     try clear hi
     refine hK.out _ _ ⟨Xk B63 0, Xk B63 1, Xk B63 2, Xk B63 3, Xk B63 4, Xk B60 0, Xk B60 1, Xk B60 2, Xn hw182_0, Xn hw182_1, Xn hw182_2, Xn hw182_3, Xn hw182_4⟩ (fun hHeld => ?_)
     clear hK K
     refine Xno ?_
     refine Pu 4 24 21 31 ?_
     refine Pu 5 25 21 63 ?_
     refine Pu 6 26 21 127 ?_
     refine Pu 7 27 21 255 ?_
     refine Pu 8 28 21 511 ?_
     refine Pu 9 29 21 1023 ?_
     refine Pu 11 31 21 3071 ?_
     refine Pu 13 33 21 11263 ?_
     refine Pu 14 34 21 27647 ?_
     refine Ta 10 30 21 28671 ?_
     refine Ta 12 32 21 32767 ?_
     refine Pu 15 35 21 65535 ?_
     refine Pu 16 36 21 131071 ?_
     refine Ta 17 37 21 262143 ?_
     refine Pu 18 38 21 524287 ?_
     refine Pu 19 39 21 1048575 ?_
     refine Pu 20 40 21 2097151 ?_
     refine Dn ?_
     try go_wp2_with (fail)
     go_meet
     case rel => exact ⟨_, (decide (((rd_T43 l0_2 x4_1).f0) ≤ ((rd_T43 l0_2 (ji16)).f0))), (by first | rfl | (simp; done) | (simp only [← hji16] <;> (first | rfl | simp)) | (simp [*]; done)), H', ⟨by have := HK1.out; first | omega | exact Nat.le_refl _⟩, (Xp' O_3), (Xp B60), (Xp B63), ⟨Xi⟩⟩
    have c15b0 : decide (0 < x4_1) = false := decide_eq_false c15
    clear c15
    (first | rw [c15b0] | (simp only [i64_w, i32_w]; rw [c15b0]) | skip)
    have H' := Am H
    clear H
    try go_wp2_with (fail)
    replace O_3 := Am (Kd.R_drew O_3.out)
    replace B60 := Xbd B60
    replace B63 := Xbd B63
    replace HB := Xhd HB
    refine Sx 21 (fun w' => w'.cell? ⟨gb63, 0, none⟩ = some (.int .i64 ((rd_T43 l0_2 x4_1).f0)) ∧ w'.cell? ⟨gb63, 1, none⟩ = some (.int .i64 ((rd_T43 l0_2 x4_1).f1)) ∧ w'.cell? ⟨gb63, 2, none⟩ = some (.int .i64 ((rd_T43 l0_2 x4_1).f2)) ∧ w'.cell? ⟨gb63, 3, none⟩ = some (.string ((rd_T43 l0_2 x4_1).f3)) ∧ w'.cell? ⟨gb63, 4, none⟩ = some (.slice A179_4 ((rd_T43 l0_2 x4_1).f4).length c179_4) ∧ w'.cell? ⟨gb60, 0, none⟩ = some (.int .i64 a0_0) ∧ w'.cell? ⟨gb60, 1, none⟩ = some (.int .i64 a0_1) ∧ w'.cell? ⟨gb60, 2, none⟩ = some (.slice (some ad62) l0_2.length c0_2)) ⟨Xk B63 0, Xk B63 1, Xk B63 2, Xk B63 3, Xk B63 4, Xk B60 0, Xk B60 1, Xk B60 2⟩ (fun hHeld => ?_); refine with_tabW spec_l02Nodes.tab6 spec_l02Nodes.bits6 (fun HT_ HW_ => ?_)
    generalize w12.drew = w21 at O_3 B60 B63 HB hHeld ⊢
    refine Pu 1 21 21 2 ?_
    refine Ta 0 20 21 3 ?_
    refine Ta 2 22 21 7 ?_
    refine On 3 23 21 15 (fun K hK => ?_)
    refine Gs Try.func128 #[.agg #[.int .i64 ((rd_T43 l0_2 x4_1).f0), .int .i64 ((rd_T43 l0_2 x4_1).f1), .int .i64 ((rd_T43 l0_2 x4_1).f2), .string ((rd_T43 l0_2 x4_1).f3), .slice A179_4 ((rd_T43 l0_2 x4_1).f4).length c179_4], .int .i64 a0_1] ?_
    with_reducible refine (spec_l02Node.calls ((rd_T43 l0_2 x4_1).f0) ((rd_T43 l0_2 x4_1).f1) ((rd_T43 l0_2 x4_1).f2) ((rd_T43 l0_2 x4_1).f3) _ _ ((rd_T43 l0_2 x4_1).f4) a0_1 true _ ?s1 ?s2 A13.out).mono ?_
    (case s1 => exact Xc HR62_4)
    (case s2 => exact HC62_4.out)
    rintro e w22 ⟨rfl, hb⟩
    refine ⟨_, rfl, ?_⟩
    replace O_3 := Am (Kd.R_below (Xq O_3) hb)
    replace B60 := Xbb B60 hb
    replace B63 := Xbb B63 hb
    replace HB := Xhb hb
    try clear hb
    try clear hb2
    try clear hk
    try clear hi
    refine hK.out _ _ ⟨Xk B63 0, Xk B63 1, Xk B63 2, Xk B63 3, Xk B63 4, Xk B60 0, Xk B60 1, Xk B60 2⟩ (fun hHeld => ?_)
    clear hK K
    refine Xno ?_
    refine Pu 4 24 21 31 ?_
    refine Pu 5 25 21 63 ?_
    refine Pu 6 26 21 127 ?_
    refine Pu 7 27 21 255 ?_
    refine Pu 8 28 21 511 ?_
    refine Pn 9 29 21 1023 ?_
    refine Pn 10 30 21 2047 ?_
    refine Pn 11 31 21 4095 ?_
    refine Pn 12 32 21 8191 ?_
    refine Pn 13 33 21 16383 ?_
    refine Pn 14 34 21 32767 ?_
    refine Pn 15 35 21 65535 ?_
    refine Pn 16 36 21 131071 ?_
    refine Pn 17 37 21 262143 ?_
    refine Pn 18 38 21 524287 ?_
    refine Pu 19 39 21 1048575 ?_
    refine Pu 20 40 21 2097151 ?_
    refine Dn ?_
    try go_wp2_with (fail)
    go_meet
    case rel => exact ⟨_, (false), Xr, H', ⟨by have := HK1.out; first | omega | exact Nat.le_refl _⟩, (Xp' O_3), (Xp B60), (Xp B63), ⟨Xi⟩⟩
   replace c14 := Xbf c14
   subst c14
   try rw [if_neg Xft] at H
   have H' := Am H
   clear H
   try go_wp2_with (fail)
   replace O_3 := Am (Kd.R_drew O_3.out)
   replace B60 := Xbd B60
   replace B63 := Xbd B63
   replace HB := Xhd HB
   refine Sx 21 (fun w' => w'.cell? ⟨gb63, 0, none⟩ = some (.int .i64 ((rd_T43 l0_2 x4_1).f0)) ∧ w'.cell? ⟨gb63, 1, none⟩ = some (.int .i64 ((rd_T43 l0_2 x4_1).f1)) ∧ w'.cell? ⟨gb63, 2, none⟩ = some (.int .i64 ((rd_T43 l0_2 x4_1).f2)) ∧ w'.cell? ⟨gb63, 3, none⟩ = some (.string ((rd_T43 l0_2 x4_1).f3)) ∧ w'.cell? ⟨gb63, 4, none⟩ = some (.slice A179_4 ((rd_T43 l0_2 x4_1).f4).length c179_4) ∧ w'.cell? ⟨gb60, 0, none⟩ = some (.int .i64 a0_0) ∧ w'.cell? ⟨gb60, 1, none⟩ = some (.int .i64 a0_1) ∧ w'.cell? ⟨gb60, 2, none⟩ = some (.slice (some ad62) l0_2.length c0_2)) ⟨Xk B63 0, Xk B63 1, Xk B63 2, Xk B63 3, Xk B63 4, Xk B60 0, Xk B60 1, Xk B60 2⟩ (fun hHeld => ?_); refine with_tabW spec_l02Nodes.tab6 spec_l02Nodes.bits6 (fun HT_ HW_ => ?_)
   generalize w12.drew = w23 at O_3 B60 B63 HB hHeld ⊢
   refine Pu 1 21 21 2 ?_
   refine Ta 0 20 21 3 ?_
   refine Ta 2 22 21 7 ?_
   refine On 3 23 21 15 (fun K hK => ?_)
   refine Gs Try.func128 #[.agg #[.int .i64 ((rd_T43 l0_2 x4_1).f0), .int .i64 ((rd_T43 l0_2 x4_1).f1), .int .i64 ((rd_T43 l0_2 x4_1).f2), .string ((rd_T43 l0_2 x4_1).f3), .slice A179_4 ((rd_T43 l0_2 x4_1).f4).length c179_4], .int .i64 a0_1] ?_
   with_reducible refine (spec_l02Node.calls ((rd_T43 l0_2 x4_1).f0) ((rd_T43 l0_2 x4_1).f1) ((rd_T43 l0_2 x4_1).f2) ((rd_T43 l0_2 x4_1).f3) _ _ ((rd_T43 l0_2 x4_1).f4) a0_1 false _ ?s1 ?s2 A13.out).mono ?_
   (case s1 => exact Xc HR62_4)
   (case s2 => exact HC62_4.out)
   rintro e w24 ⟨rfl, hb⟩
   refine ⟨_, rfl, ?_⟩
   replace O_3 := Am (Kd.R_below (Xq O_3) hb)
   replace B60 := Xbb B60 hb
   replace B63 := Xbb B63 hb
   replace HB := Xhb hb
   try clear hb
   try clear hb2
   try clear hk
   try clear hi
   refine hK.out _ _ ⟨Xk B63 0, Xk B63 1, Xk B63 2, Xk B63 3, Xk B63 4, Xk B60 0, Xk B60 1, Xk B60 2⟩ (fun hHeld => ?_)
   clear hK K
   refine Xno ?_
   refine Pu 4 24 21 31 ?_
   refine Pu 5 25 21 63 ?_
   refine Pn 6 26 21 127 ?_
   refine Pn 7 27 21 255 ?_
   refine Pn 8 28 21 511 ?_
   refine Pn 9 29 21 1023 ?_
   refine Pn 10 30 21 2047 ?_
   refine Pn 11 31 21 4095 ?_
   refine Pn 12 32 21 8191 ?_
   refine Pn 13 33 21 16383 ?_
   refine Pn 14 34 21 32767 ?_
   refine Pn 15 35 21 65535 ?_
   refine Pn 16 36 21 131071 ?_
   refine Pn 17 37 21 262143 ?_
   refine Pn 18 38 21 524287 ?_
   refine Pn 19 39 21 1048575 ?_
   refine Pu 20 40 21 2097151 ?_
   refine Dn ?_
   try go_wp2_with (fail)
   go_meet
   case rel => exact ⟨_, (true), Xr, H', ⟨by have := HK1.out; first | omega | exact Nat.le_refl _⟩, (Xp' O_3), (Xp B60), (Xp B63), ⟨Xi⟩⟩
  clear HC7
  (try clear c5); (try clear c5b0); (try clear c6); (try clear c6b0); (try clear Z11_0); (try clear Z11_1); (try clear Z11_2); (try clear Z11_3); (try clear Z11_4); (try clear Z8_0); (try clear Z8_1); (try clear Z8_2); (try clear F11_0); (try clear F11_1); (try clear F11_2); (try clear F11_3); (try clear F11_4); (try clear F8_0); (try clear F8_1); (try clear F8_2); (try clear hx62_0); (try clear hx62_1); (try clear hx62_2); (try clear hx62_3); (try clear hx62_4); (try clear p62); (try clear q62)
  obtain ⟨kq, x40_6, rfl, HA, HJ6, O_3, B60, B63, HB⟩ := hcut
  cases kq with | zero => cases HA.out | succ kj6 => ?_
  have H := HA.out
  clear HA
  simp only [spec_l02Nodes.j1] at H
  by_cases c25 : x40_6 = true
  ·subst c25
   try rw [if_pos rfl] at H
   obtain rfl := Xsi H
   go_wp2
   go_ret
   exact ⟨Xe, Xi⟩
  replace c25 := Xbf c25
  subst c25
  try rw [if_neg Xft] at H
  have H' := Am H
  clear H
  go_wp2
  go_loopg [3, 6] kj6 (fun kq v3 v6 w' => ∃ (x3_3 : List Int) (x6_3 : Int), v6 = .int .i64 x6_3 ∧ Aside0 (spec_l02Nodes.l1 kq x3_3 x4_1 x6_3 a0_0 a0_1 l0_2 ((rd_T43 l0_2 x4_1).f0) ((rd_T43 l0_2 x4_1).f1) ((rd_T43 l0_2 x4_1).f2) ((rd_T43 l0_2 x4_1).f3) ((rd_T43 l0_2 x4_1).f4) = some r) ∧ Aside0 (kq ≤ kj6) ∧ Aside0 (Kd.R (Kd.int .i64) 3 w' w.heap.size (fun _ => True) v3 x3_3) ∧ Aside0 (w'.heap[gb60]? = some (.cells #[.int .i64 a0_0, .int .i64 a0_1, (.slice (some ad62) l0_2.length c0_2)] 29 (0, 0))) ∧ Aside0 (w'.heap[gb63]? = some (.cells #[.int .i64 ((rd_T43 l0_2 x4_1).f0), .int .i64 ((rd_T43 l0_2 x4_1).f1), .int .i64 ((rd_T43 l0_2 x4_1).f2), .string ((rd_T43 l0_2 x4_1).f3), (.slice A179_4 ((rd_T43 l0_2 x4_1).f4).length c179_4)] 43 (0, 0))) ∧ Aside0 (Below w.heap.size w w'))
  case atStart => exact ⟨(x3_1), (0), Xr, H', Xkr, (Xp' O_3), (Xp B60), (Xp B63), ⟨Xi⟩⟩
  clear H'
  (try clear c5); (try clear c5b0); (try clear c6); (try clear c6b0); (try clear c25); (try clear Z11_0); (try clear Z11_1); (try clear Z11_2); (try clear Z11_3); (try clear Z11_4); (try clear Z8_0); (try clear Z8_1); (try clear Z8_2); (try clear F11_0); (try clear F11_1); (try clear F11_2); (try clear F11_3); (try clear F11_4); (try clear F8_0); (try clear F8_1); (try clear F8_2); (try clear hx62_0); (try clear hx62_1); (try clear hx62_2); (try clear hx62_3); (try clear hx62_4); (try clear p62); (try clear q62)
  obtain ⟨x3_3, x6_3, rfl, HA, HK3, O_3, B60, B63, HB⟩ := hrel
  cases gk with | zero => cases HA.out | succ k3 => ?_
  have H := HA.out
  clear HA
  simp only [spec_l02Nodes.l1] at H
  obtain ⟨c26b0, H⟩ | ⟨c26b0, H⟩ := Xit H
  ·obtain ⟨c27b0, H⟩ := Xid H
   obtain ⟨c28, H⟩ | ⟨c28, H⟩ := Xiu H
   ·have c28b0 : ((rd ((rd_T43 l0_2 x4_1).f4) x6_3) == a0_0) = true := beq_iff_eq.mpr c28
    have c28b1 : ((rd ((rd_T43 l0_2 x4_1).f4) x6_3) != a0_0) = false := bne_eq_false_iff_eq.mpr c28
    clear c28
    obtain rfl := Xsi H
    have hnb29 := NB63_60.out
    have hnc29 := NB60_63.out
    obtain ⟨Z30_0, Z30_1, Z30_2, Z30_3, Z30_4⟩ := Xc5 B63
    obtain ⟨F30_0, F30_1, F30_2, F30_3, F30_4⟩ := Xf5 B63
    try go_wp2_with (fail)
    replace O_3 := Am (Kd.R_drew O_3.out)
    replace B60 := Xbd B60
    replace B63 := Xbd B63
    replace HB := Xhd HB
    have p67 : 0 ≤ (x6_3 : Int) := Xo
    have q67 : x6_3 < (((rd_T43 l0_2 x4_1).f4).length : Int) := Xo
    obtain ⟨ad67, e67, hx67_0⟩ := Kd.at_int HR62_4.out x6_3 p67 q67
    have hw183_0 := hx67_0
    cases e67
    replace hx67_0 := Xm HB hx67_0
    replace p67 := eq_true p67
    replace q67 := eq_true q67
    refine Sx 27 (fun w' => w'.cell? ⟨gb63, 0, none⟩ = some (.int .i64 ((rd_T43 l0_2 x4_1).f0)) ∧ w'.cell? ⟨gb63, 1, none⟩ = some (.int .i64 ((rd_T43 l0_2 x4_1).f1)) ∧ w'.cell? ⟨gb63, 2, none⟩ = some (.int .i64 ((rd_T43 l0_2 x4_1).f2)) ∧ w'.cell? ⟨gb63, 3, none⟩ = some (.string ((rd_T43 l0_2 x4_1).f3)) ∧ w'.cell? ⟨gb63, 4, none⟩ = some (.slice (some ad67) ((rd_T43 l0_2 x4_1).f4).length c179_4) ∧ w'.cell? ⟨gb60, 0, none⟩ = some (.int .i64 a0_0) ∧ w'.cell? ⟨gb60, 1, none⟩ = some (.int .i64 a0_1) ∧ w'.cell? ⟨gb60, 2, none⟩ = some (.slice (some ad62) l0_2.length c0_2) ∧ w'.cell? (ad67.add (x6_3).toNat) = some (.int .i64 (rd ((rd_T43 l0_2 x4_1).f4) x6_3))) ⟨Xk B63 0, Xk B63 1, Xk B63 2, Xk B63 3, Xk B63 4, Xk B60 0, Xk B60 1, Xk B60 2, Xn hw183_0⟩ (fun hHeld => ?_); refine with_tabW spec_l02Nodes.tab11 spec_l02Nodes.bits11 (fun HT_ HW_ => ?_)
    generalize wr.drew = w31 at O_3 B60 B63 HB hx67_0 hHeld ⊢
    refine Pu 0 48 27 1 ?_
    refine Pu 2 50 27 5 ?_
    refine Pu 5 53 27 37 ?_
    refine Ta 1 49 27 39 ?_
    refine Pu 3 51 27 47 ?_
    refine Ta 4 52 27 63 ?_
    refine Ta 6 54 27 127 ?_
    refine Pu 7 55 27 255 ?_
    refine Pu 8 56 27 511 ?_
    refine Pn 9 57 27 1023 ?_
    refine Pn 10 58 27 2047 ?_
    refine Pn 11 59 27 4095 ?_
    refine Pn 12 60 27 8191 ?_
    refine Pn 13 61 27 16383 ?_
    refine Pn 14 62 27 32767 ?_
    refine Pn 15 63 27 65535 ?_
    refine Pu 16 64 27 131071 ?_
    refine Pu 17 65 27 262143 ?_
    refine Pn 18 66 27 524287 ?_
    refine Pn 19 67 27 1048575 ?_
    refine Pn 20 68 27 2097151 ?_
    refine Pn 21 69 27 4194303 ?_
    refine Pn 22 70 27 8388607 ?_
    refine Pn 23 71 27 16777215 ?_
    refine Pn 24 72 27 33554431 ?_
    refine Pn 25 73 27 67108863 ?_
    refine Pu 26 74 27 134217727 ?_
    refine Dn ?_
    try go_wp2_with (fail)
    go_ret
    exact ⟨Xe, Xi⟩
   have c28b0 : ((rd ((rd_T43 l0_2 x4_1).f4) x6_3) == a0_0) = false := beq_eq_false_iff_ne.mpr c28
   have c28b1 : ((rd ((rd_T43 l0_2 x4_1).f4) x6_3) != a0_0) = true := bne_iff_ne.mpr c28
   obtain ⟨t68, A32, H⟩ := Xbi H
   try dsimp only at H
   by_cases c33 : t68 = true
   ·subst c33
    try rw [if_pos rfl] at H
    obtain rfl := Xsi H
    have hnb34 := NB63_60.out
    have hnc34 := NB60_63.out
    obtain ⟨Z35_0, Z35_1, Z35_2, Z35_3, Z35_4⟩ := Xc5 B63
    obtain ⟨F35_0, F35_1, F35_2, F35_3, F35_4⟩ := Xf5 B63
    try go_wp2_with (fail)
    replace O_3 := Am (Kd.R_drew O_3.out)
    replace B60 := Xbd B60
    replace B63 := Xbd B63
    replace HB := Xhd HB
    have p67 : 0 ≤ (x6_3 : Int) := Xo
    have q67 : x6_3 < (((rd_T43 l0_2 x4_1).f4).length : Int) := Xo
    obtain ⟨ad67, e67, hx67_0⟩ := Kd.at_int HR62_4.out x6_3 p67 q67
    have hw183_0 := hx67_0
    cases e67
    replace hx67_0 := Xm HB hx67_0
    replace p67 := eq_true p67
    replace q67 := eq_true q67
    have p69 : 0 ≤ (x6_3 : Int) := Xo
    have q69 : x6_3 < (((rd_T43 l0_2 x4_1).f4).length : Int) := Xo
    obtain ⟨ad69, e69, hx69_0⟩ := Kd.at_int HR62_4.out x6_3 p69 q69
    have hw184_0 := hx69_0
    obtain rfl : ad67 = ad69 := (by injection e69)
    replace hx69_0 := Xm HB hx69_0
    replace p69 := eq_true p69
    replace q69 := eq_true q69
    obtain ⟨Ao37, co37, eo37⟩ := Kd.R_slice O_3.out
    (first | subst eo37 | (injection eo37 with f1_ f2_ f3_; have f4_ := f1_.symm; have f5_ := f3_.symm; clear f1_ f2_ f3_; subst f4_; subst f5_))
    refine Sx 27 (fun w' => w'.cell? ⟨gb63, 0, none⟩ = some (.int .i64 ((rd_T43 l0_2 x4_1).f0)) ∧ w'.cell? ⟨gb63, 1, none⟩ = some (.int .i64 ((rd_T43 l0_2 x4_1).f1)) ∧ w'.cell? ⟨gb63, 2, none⟩ = some (.int .i64 ((rd_T43 l0_2 x4_1).f2)) ∧ w'.cell? ⟨gb63, 3, none⟩ = some (.string ((rd_T43 l0_2 x4_1).f3)) ∧ w'.cell? ⟨gb63, 4, none⟩ = some (.slice (some ad67) ((rd_T43 l0_2 x4_1).f4).length c179_4) ∧ w'.cell? ⟨gb60, 0, none⟩ = some (.int .i64 a0_0) ∧ w'.cell? ⟨gb60, 1, none⟩ = some (.int .i64 a0_1) ∧ w'.cell? ⟨gb60, 2, none⟩ = some (.slice (some ad62) l0_2.length c0_2) ∧ w'.cell? (ad67.add (x6_3).toNat) = some (.int .i64 (rd ((rd_T43 l0_2 x4_1).f4) x6_3)) ∧ w'.cell? (ad67.add (x6_3).toNat) = some (.int .i64 (rd ((rd_T43 l0_2 x4_1).f4) x6_3))) ⟨Xk B63 0, Xk B63 1, Xk B63 2, Xk B63 3, Xk B63 4, Xk B60 0, Xk B60 1, Xk B60 2, Xn hw183_0, Xn hw184_0⟩ (fun hHeld => ?_); refine with_tabW spec_l02Nodes.tab11 spec_l02Nodes.bits11 (fun HT_ HW_ => ?_)
    generalize wr.drew = w36 at O_3 B60 B63 HB hx67_0 hx69_0 hHeld ⊢
    refine Pu 0 48 27 1 ?_
    refine Pu 2 50 27 5 ?_
    refine Pu 5 53 27 37 ?_
    refine Ta 1 49 27 39 ?_
    refine Pu 3 51 27 47 ?_
    refine Ta 4 52 27 63 ?_
    refine Ta 6 54 27 127 ?_
    refine Pu 7 55 27 255 ?_
    refine Pu 8 56 27 511 ?_
    refine Pu 9 57 27 1023 ?_
    refine Pu 10 58 27 2047 ?_
    refine Pu 12 60 27 6143 ?_
    refine Ta 11 59 27 8191 ?_
    refine Pu 13 61 27 16383 ?_
    refine Ta 14 62 27 32767 ?_
    refine On 15 63 27 65535 (fun K hK => ?_)
    refine Gs Try.func102 #[.slice Ao37 x3_3.length co37, .int .i64 (rd ((rd_T43 l0_2 x4_1).f4) x6_3)] ?_
    with_reducible refine (spec_l02Has.calls k3 _ _ x3_3 (rd ((rd_T43 l0_2 x4_1).f4) x6_3) true _ ?s1 ?s2 A32.out).mono ?_
    (case s1 => exact Xcd (Kd.R_reads' O_3.out).2.2)
    (case s2 => exact (Kd.R_reads' O_3.out).2.1)
    rintro e w' ⟨rfl, ⟨nd, rfl⟩⟩
    refine ⟨_, rfl, ?_⟩
    refine hK.out _ _ ⟨Xk B63 0, Xk B63 1, Xk B63 2, Xk B63 3, Xk B63 4, Xk B60 0, Xk B60 1, Xk B60 2, Xn hw183_0, Xn hw184_0⟩ (fun hHeld => ?_)
    clear hK K
    refine Xno ?_
    refine Pu 16 64 27 131071 ?_
    refine Pu 17 65 27 262143 ?_
    refine Pn 18 66 27 524287 ?_
    refine Pn 19 67 27 1048575 ?_
    refine Pn 20 68 27 2097151 ?_
    refine Pn 21 69 27 4194303 ?_
    refine Pn 22 70 27 8388607 ?_
    refine Pn 23 71 27 16777215 ?_
    refine Pn 24 72 27 33554431 ?_
    refine Pn 25 73 27 67108863 ?_
    refine Pu 26 74 27 134217727 ?_
    refine Dn ?_
    try go_wp2_with (fail)
    go_ret
    exact ⟨Xe, Xi⟩
   replace c33 := Xbf c33
   subst c33
   try rw [if_neg Xft] at H
   obtain ⟨t70, A38, H⟩ := Xbi H
   try dsimp only at H
   have HC39 := Am H
   clear H
   have hnb40 := NB63_60.out
   have hnc40 := NB60_63.out
   obtain ⟨Z41_0, Z41_1, Z41_2, Z41_3, Z41_4⟩ := Xc5 B63
   obtain ⟨F41_0, F41_1, F41_2, F41_3, F41_4⟩ := Xf5 B63
   try go_wp2_with (fail)
   replace O_3 := Am (Kd.R_drew O_3.out)
   replace B60 := Xbd B60
   replace B63 := Xbd B63
   replace HB := Xhd HB
   have p67 : 0 ≤ (x6_3 : Int) := Xo
   have q67 : x6_3 < (((rd_T43 l0_2 x4_1).f4).length : Int) := Xo
   obtain ⟨ad67, e67, hx67_0⟩ := Kd.at_int HR62_4.out x6_3 p67 q67
   have hw183_0 := hx67_0
   cases e67
   replace hx67_0 := Xm HB hx67_0
   replace p67 := eq_true p67
   replace q67 := eq_true q67
   have p69 : 0 ≤ (x6_3 : Int) := Xo
   have q69 : x6_3 < (((rd_T43 l0_2 x4_1).f4).length : Int) := Xo
   obtain ⟨ad69, e69, hx69_0⟩ := Kd.at_int HR62_4.out x6_3 p69 q69
   have hw184_0 := hx69_0
   obtain rfl : ad67 = ad69 := (by injection e69)
   replace hx69_0 := Xm HB hx69_0
   replace p69 := eq_true p69
   replace q69 := eq_true q69
   obtain ⟨Ao43, co43, eo43⟩ := Kd.R_slice O_3.out
   (first | subst eo43 | (injection eo43 with f1_ f2_ f3_; have f4_ := f1_.symm; have f5_ := f3_.symm; clear f1_ f2_ f3_; subst f4_; subst f5_))
   have p71 : 0 ≤ (x6_3 : Int) := Xo
   have q71 : x6_3 < (((rd_T43 l0_2 x4_1).f4).length : Int) := Xo
   obtain ⟨ad71, e71, hx71_0⟩ := Kd.at_int HR62_4.out x6_3 p71 q71
   have hw186_0 := hx71_0
   obtain rfl : ad67 = ad71 := (by injection e71)
   replace hx71_0 := Xm HB hx71_0
   replace p71 := eq_true p71
   replace q71 := eq_true q71
   refine Sx 27 (fun w' => w'.cell? ⟨gb63, 0, none⟩ = some (.int .i64 ((rd_T43 l0_2 x4_1).f0)) ∧ w'.cell? ⟨gb63, 1, none⟩ = some (.int .i64 ((rd_T43 l0_2 x4_1).f1)) ∧ w'.cell? ⟨gb63, 2, none⟩ = some (.int .i64 ((rd_T43 l0_2 x4_1).f2)) ∧ w'.cell? ⟨gb63, 3, none⟩ = some (.string ((rd_T43 l0_2 x4_1).f3)) ∧ w'.cell? ⟨gb63, 4, none⟩ = some (.slice (some ad67) ((rd_T43 l0_2 x4_1).f4).length c179_4) ∧ w'.cell? ⟨gb60, 0, none⟩ = some (.int .i64 a0_0) ∧ w'.cell? ⟨gb60, 1, none⟩ = some (.int .i64 a0_1) ∧ w'.cell? ⟨gb60, 2, none⟩ = some (.slice (some ad62) l0_2.length c0_2) ∧ w'.cell? (ad67.add (x6_3).toNat) = some (.int .i64 (rd ((rd_T43 l0_2 x4_1).f4) x6_3)) ∧ w'.cell? (ad67.add (x6_3).toNat) = some (.int .i64 (rd ((rd_T43 l0_2 x4_1).f4) x6_3)) ∧ w'.cell? (ad67.add (x6_3).toNat) = some (.int .i64 (rd ((rd_T43 l0_2 x4_1).f4) x6_3))) ⟨Xk B63 0, Xk B63 1, Xk B63 2, Xk B63 3, Xk B63 4, Xk B60 0, Xk B60 1, Xk B60 2, Xn hw183_0, Xn hw184_0, Xn hw186_0⟩ (fun hHeld => ?_); refine with_tabW spec_l02Nodes.tab11 spec_l02Nodes.bits11 (fun HT_ HW_ => ?_)
   generalize wr.drew = w42 at O_3 B60 B63 HB hx67_0 hx69_0 hx71_0 hHeld ⊢
   refine Pu 0 48 27 1 ?_
   refine Pu 2 50 27 5 ?_
   refine Pu 5 53 27 37 ?_
   refine Ta 1 49 27 39 ?_
   refine Pu 3 51 27 47 ?_
   refine Ta 4 52 27 63 ?_
   refine Ta 6 54 27 127 ?_
   refine Pu 7 55 27 255 ?_
   refine Pu 8 56 27 511 ?_
   refine Pu 9 57 27 1023 ?_
   refine Pu 10 58 27 2047 ?_
   refine Pu 12 60 27 6143 ?_
   refine Ta 11 59 27 8191 ?_
   refine Pu 13 61 27 16383 ?_
   refine Ta 14 62 27 32767 ?_
   refine On 15 63 27 65535 (fun K hK => ?_)
   refine Gs Try.func102 #[.slice Ao43 x3_3.length co43, .int .i64 (rd ((rd_T43 l0_2 x4_1).f4) x6_3)] ?_
   with_reducible refine (spec_l02Has.calls k3 _ _ x3_3 (rd ((rd_T43 l0_2 x4_1).f4) x6_3) false _ ?s1 ?s2 A32.out).mono ?_
   (case s1 => exact Xcd (Kd.R_reads' O_3.out).2.2)
   (case s2 => exact (Kd.R_reads' O_3.out).2.1)
   rintro e w' ⟨rfl, ⟨nd, rfl⟩⟩
   refine ⟨_, rfl, ?_⟩
   refine hK.out _ _ ⟨Xk B63 0, Xk B63 1, Xk B63 2, Xk B63 3, Xk B63 4, Xk B60 0, Xk B60 1, Xk B60 2, Xn hw183_0, Xn hw184_0, Xn hw186_0⟩ (fun hHeld => ?_)
   clear hK K
   refine Xno ?_
   refine Pu 16 64 27 131071 ?_
   refine Pu 17 65 27 262143 ?_
   refine Pu 19 67 27 786431 ?_
   refine Pu 21 69 27 2883583 ?_
   refine Ta 18 66 27 3145727 ?_
   refine Ta 20 68 27 4194303 ?_
   refine Pu 22 70 27 8388607 ?_
   refine Ta 23 71 27 16777215 ?_
   refine On 24 72 27 33554431 (fun K hK => ?_)
   refine Gs Try.func74 #[.agg #[.int .i64 a0_0, .int .i64 a0_1, .slice (some ad62) l0_2.length c0_2], .int .i64 (rd ((rd_T43 l0_2 x4_1).f4) x6_3)] ?_
   with_reducible refine (spec_l02At.calls k3 a0_0 a0_1 _ _ l0_2 (rd ((rd_T43 l0_2 x4_1).f4) x6_3) t70 _ ?s1 ?s2 A38.out).mono ?_
   (case s1 => exact Xc HR0_2)
   (case s2 => exact HC0_2.out)
   rintro e w44 ⟨rfl, hb⟩
   refine ⟨_, rfl, ?_⟩
   replace O_3 := Am (Kd.R_below (Xq O_3) hb)
   replace B60 := Xbb B60 hb
   replace B63 := Xbb B63 hb
   replace HB := Xhb hb
   try clear hb
   try clear hb2
   try clear hk
   try clear hi
   refine hK.out _ _ ⟨Xk B63 0, Xk B63 1, Xk B63 2, Xk B63 3, Xk B63 4, Xk B60 0, Xk B60 1, Xk B60 2, Xn hw183_0, Xn hw184_0, Xn hw186_0⟩ (fun hHeld => ?_)
   clear hK K
   refine Xno ?_
   refine Pu 25 73 27 67108863 ?_
   refine Pu 26 74 27 134217727 ?_
   refine Dn ?_
   go_upto_if 74 with (fail)
   have H := HC39.out
   clear HC39
   obtain ⟨c45b0, H⟩ | ⟨c45b0, H⟩ := Xit H
   ·(first | rw [c45b0] | (simp only [i64_w, i32_w]; rw [c45b0]) | skip)
    obtain rfl := Xsi H
    go_wp2
    go_ret
    exact ⟨Xe, Xi⟩
   (first | rw [c45b0] | (simp only [i64_w, i32_w]; rw [c45b0]) | skip)
   obtain ⟨c46, H⟩ := Xif H
   have LMc46 := Am c46
   clear c46
   obtain ⟨y72, hy72⟩ : ∃ y_ : List Int, y_ = (x3_3 ++ [rd ((rd_T43 l0_2 x4_1).f4) x6_3]) := ⟨_, rfl⟩
   replace H : (spec_l02Nodes.l1 k3 y72 x4_1 (wrap64 (x6_3 + 1)) a0_0 a0_1 l0_2 ((rd_T43 l0_2 x4_1).f0) ((rd_T43 l0_2 x4_1).f1) ((rd_T43 l0_2 x4_1).f2) ((rd_T43 l0_2 x4_1).f3) ((rd_T43 l0_2 x4_1).f4)) = some r := by first | (rw [hy72]; with_reducible exact H) | (have H2_ := (Option.bind_some _ _).symm.trans H; rw [hy72]; with_reducible exact H2_) | (have H2_ := (Option.bind_some _ _).symm.trans H; with_reducible exact H2_) | with_reducible exact H | (rw [hy72]; exact H) | exact H
   have Ny72 := Am hy72
   clear hy72
   have H' := Am H
   clear H
   have hnb47 := NB63_60.out
   have hnc47 := NB60_63.out
   obtain ⟨Z48_0, Z48_1, Z48_2, Z48_3, Z48_4⟩ := Xc5 B63
   obtain ⟨F48_0, F48_1, F48_2, F48_3, F48_4⟩ := Xf5 B63
   have p73 : 0 ≤ (x6_3 : Int) := Xo
   have q73 : x6_3 < (((rd_T43 l0_2 x4_1).f4).length : Int) := Xo
   obtain ⟨ad73, e73, hx73_0⟩ := Kd.at_int HR62_4.out x6_3 p73 q73
   obtain rfl : ad67 = ad73 := (by injection e73)
   replace hx73_0 := Xm HB hx73_0
   replace p73 := eq_true p73
   replace q73 := eq_true q73
   go_wp2_with (first | ((with_reducible refine gate_builtin (b := .append) (xs := #[.tmp 75, .tmp 81]) rfl ?_); at_builtin; refine Kd.R_append (Kd.int .i64) (w0 := w) w.heap.size rfl (.tmp 75) (.tmp 81) 37 3 (.int .i64 0) 8 rfl Try.underlying37 info3 rfl (by decide) (by omega) (.slice Ao43 x3_3.length co43) x3_3 (rd ((rd_T43 l0_2 x4_1).f4) x6_3) [.int .i64 (rd ((rd_T43 l0_2 x4_1).f4) x6_3)] (fun _ => True) (fun _ => False) rfl rfl ?aP (fun _ hk => hk.elim) ?aF ?aO ?aB ?aS ?aL ?_; (case aP => exact rfl); (case aB => exact Xi); (case aF => exact (fun _ _ => trivial)); (case aO => exact (Xq O_3)); (case aS => exact (below_size Xi)); (case aL => have := LMc46.out; omega); intro v190 w49 ho hb hg hat; rw [← Ny72.out] at ho; replace B60 := Am (blk_grown (g := gb60) (o := .cells #[.int .i64 a0_0, .int .i64 a0_1, .slice (some ad62) l0_2.length c0_2] 29 (0, 0)) (Xq' B60) hg (Kd.R_ne O_3.out B60.out (by decide))); replace B63 := Am (blk_grown (g := gb63) (o := .cells #[.int .i64 ((rd_T43 l0_2 x4_1).f0), .int .i64 ((rd_T43 l0_2 x4_1).f1), .int .i64 ((rd_T43 l0_2 x4_1).f2), .string ((rd_T43 l0_2 x4_1).f3), .slice (some ad67) ((rd_T43 l0_2 x4_1).f4).length c179_4] 43 (0, 0)) (Xq' B63) hg (Kd.R_ne O_3.out B63.out (by decide))); replace HB := Am (hb); have HO74 := Am (ho); clear O_3; clear ho hb hg hat))
   go_roundg k3
   case measure => have := HK1.out; have := HJ6.out; have := HK3.out; omega
   case rel => exact ⟨(y72), (wrap64 (x6_3 + 1)), Xr, H', ⟨by have := HK1.out; have := HJ6.out; have := HK3.out; omega⟩, (Xp' HO74), (Xp B60), (Xp B63), ⟨Xi⟩⟩
  have H' := Am H
  clear H
  have hnb50 := NB63_60.out
  have hnc50 := NB60_63.out
  obtain ⟨Z51_0, Z51_1, Z51_2, Z51_3, Z51_4⟩ := Xc5 B63
  obtain ⟨F51_0, F51_1, F51_2, F51_3, F51_4⟩ := Xf5 B63
  go_wp2
  go_roundg k3
  case measure => have := HK1.out; have := HJ6.out; have := HK3.out; omega
  case rel => exact ⟨(x3_3), (wrap64 (x4_1 + 1)), Xr, H', ⟨by have := HK1.out; have := HJ6.out; have := HK3.out; omega⟩, (Xp' O_3), (Xp B60), ⟨Xi⟩⟩
 obtain ⟨c52, H⟩ | ⟨c52, H⟩ := Xiu H
 ·have c52b0 : ((x3_1.length : Int) == (wrap64 ((l0_2.length : Int) - 1))) = true := beq_iff_eq.mpr c52
  have c52b1 : ((x3_1.length : Int) != (wrap64 ((l0_2.length : Int) - 1))) = false := bne_eq_false_iff_eq.mpr c52
  clear c52
  obtain ⟨t75, A53, H⟩ := Xbi H
  try dsimp only at H
  obtain rfl := Xsi H
  obtain ⟨Z54_0, Z54_1, Z54_2⟩ := Xc3 B60
  obtain ⟨F54_0, F54_1, F54_2⟩ := Xf3 B60
  obtain ⟨Ao55, co55, eo55⟩ := Kd.R_slice O_3.out
  subst eo55
  go_wp2_with (first | (go_at_call 74; (with_reducible refine (spec_l02At.calls k1 a0_0 a0_1 _ _ l0_2 a0_0 t75 _ ?s1 ?s2 A53.out).mono ?_); (case s1 => exact Xc HR0_2); (case s2 => exact HC0_2.out); rintro e w56 ⟨rfl, hb⟩; replace O_3 := Am (Kd.R_below (Xq O_3) hb); replace B60 := Xbb B60 hb; replace HB := Xhb hb; clear hb))
  go_ret
  exact ⟨Xe, Xi⟩
 have c52b0 : ((x3_1.length : Int) == (wrap64 ((l0_2.length : Int) - 1))) = false := beq_eq_false_iff_ne.mpr c52
 have c52b1 : ((x3_1.length : Int) != (wrap64 ((l0_2.length : Int) - 1))) = true := bne_iff_ne.mpr c52
 obtain rfl := Xsi H
 obtain ⟨Z57_0, Z57_1, Z57_2⟩ := Xc3 B60
 obtain ⟨F57_0, F57_1, F57_2⟩ := Xf3 B60
 obtain ⟨Ao58, co58, eo58⟩ := Kd.R_slice O_3.out
 subst eo58
 go_wp2
 go_ret
 exact ⟨Xe, Xi⟩
def spec_l02Parent.l0 : Nat → Int → Int → Int → Int → List (S43) → Option (Int)
 | 0, _, _, _, _, _ => none
 | k + 1, x1, x5, x193000, x193001, x193002 => if x5 < (x193002.length : Int) then (if 0 ≤ x5 then ((spec_l02Has.f k ((rd_T43 x193002 x5).f4) x1).bind fun t10 => (if t10 = true then (some ((rd_T43 x193002 x5).f0)) else (spec_l02Parent.l0 k x1 (wrap64 (x5 + 1)) x193000 x193001 x193002))) else (none)) else (some 0)
def spec_l02Parent.f (k : Nat) (a0_0 : Int) (a0_1 : Int) (l0_2 : List (S43)) (a1 : Int) : Option (Int) := spec_l02Parent.l0 k a1 0 a0_0 a0_1 l0_2
theorem spec_l02Parent.calls (k : Nat) (a0_0 : Int) (a0_1 : Int) (A0_2 : Option Addr) (c0_2 : Nat) (l0_2 : List (S43)) (a1 : Int) (r : Int) (w : World) (hr0_2 : Kd.C k43 w A0_2 l0_2.length l0_2) (hc0_2 : l0_2.length ≤ c0_2) (h : spec_l02Parent.f k a0_0 a0_1 l0_2 a1 = some r) :
  Calls Try.prog 57 #[.agg #[.int .i64 a0_0, .int .i64 a0_1, .slice A0_2 l0_2.length c0_2], .int .i64 a1] w fun e w' => e = .returned (.int .i64 r) ∧ Below w.heap.size w w' := by
 have hu29 := Try.underlying29
 have HR0_2 := Am hr0_2
 have HC0_2 := Am hc0_2
 clear hr0_2 hc0_2
 have HB := Am (Below.refl w.heap.size w)
 have H : (spec_l02Parent.l0 k a1 0 a0_0 a0_1 l0_2) = some r := h
 clear h
 have H' := Am H
 clear H
 go_enter Try.func57, Try.ntmps57
 go_wp2_with (first | ((with_reducible refine gate_dst (N := 2) rfl ?_); refine Xbx 2 #[.int .i64 a0_0, .int .i64 a0_1, .slice A0_2 l0_2.length c0_2] 29 ?_; intro gb12 hg w3 B12 GE12 hb; replace HB := Xhb hb; clear hb hg))
 go_loopg [5] k (fun kq v5 w' => ∃ (x5_1 : Int), v5 = .int .i64 x5_1 ∧ Aside0 (spec_l02Parent.l0 kq a1 x5_1 a0_0 a0_1 l0_2 = some r) ∧ Aside0 (kq ≤ k) ∧ Aside0 (w'.heap[gb12]? = some (.cells #[.int .i64 a0_0, .int .i64 a0_1, (.slice A0_2 l0_2.length c0_2)] 29 (0, 0))) ∧ Aside0 (Below w.heap.size w w'))
 case atStart => exact ⟨(0), Xr, H', Xkr, B12, ⟨Xi⟩⟩
 clear H'
 obtain ⟨x5_1, rfl, HA, HK1, B12, HB⟩ := hrel
 cases gk with | zero => cases HA.out | succ k1 => ?_
 have H := HA.out
 clear HA
 simp only [spec_l02Parent.l0] at H
 obtain ⟨c4b0, H⟩ | ⟨c4b0, H⟩ := Xit H
 ·obtain ⟨c5b0, H⟩ := Xid H
  obtain ⟨t13, A6, H⟩ := Xbi H
  try dsimp only at H
  have HC7 := Am H
  clear H
  obtain ⟨Z8_0, Z8_1, Z8_2⟩ := Xc3 B12
  obtain ⟨ad14, A193_4, c193_4, e14, p14, q14, hx14_0, hx14_1, hx14_2, hx14_3, hx14_4, HC14_4, HR14_4⟩ := at_B43 HR0_2 x5_1 Xa Xa HB
  cases e14
  go_upto_if 20 with ((with_reducible refine gate_callee (f := 102) rfl ?_); refine Xgo 20 Try.func102 #[.slice A193_4 ((rd_T43 l0_2 x5_1).f4).length c193_4, .int .i64 a1] ?_; (with_reducible refine (spec_l02Has.calls k1 _ _ ((rd_T43 l0_2 x5_1).f4) a1 t13 _ ?s1 ?s2 A6.out).mono ?_); (case s1 => exact Xc HR14_4); (case s2 => exact HC14_4.out); rintro e w' ⟨rfl, ⟨nd, rfl⟩⟩; refine ⟨_, rfl, ?_⟩)
  have H := HC7.out
  clear HC7
  by_cases c9 : t13 = true
  ·subst c9
   try rw [if_pos rfl] at H
   obtain rfl := Xsi H
   obtain ⟨Z10_0, Z10_1, Z10_2⟩ := Xc3 B12
   obtain ⟨ad15, A195_4, c195_4, e15, p15, q15, hx15_0, hx15_1, hx15_2, hx15_3, hx15_4, HC15_4, HR15_4⟩ := at_B43 HR0_2 x5_1 Xa Xa HB
   obtain rfl : ad14 = ad15 := (by injection e15)
   go_wp2
   go_ret
   exact ⟨Xe, Xi⟩
  replace c9 := Xbf c9
  subst c9
  try rw [if_neg Xft] at H
  have H' := Am H
  clear H
  go_wp2
  go_roundg k1
  case measure => have := HK1.out; omega
  case rel => exact ⟨(wrap64 (x5_1 + 1)), Xr, H', Xk1, B12, ⟨Xi⟩⟩
 obtain rfl := Xsi H
 obtain ⟨Z11_0, Z11_1, Z11_2⟩ := Xc3 B12
 go_wp2
 go_ret
 exact ⟨Xe, Xi⟩
mutual
def spec_l02Reach.l0 : Nat → Int → Int → Int → List (S43) → Option (Bool)
 | 0, _, _, _, _ => none
 | k + 1, x3, x197000, x197001, x197002 => if x3 < (x197002.length : Int) then (if 0 ≤ x3 then (spec_l02Reach.l1 k x3 ((rd_T43 x197002 x3).f0) 0 x197000 x197001 x197002) else (none)) else (some true)
def spec_l02Reach.l1 : Nat → Int → Int → Int → Int → Int → List (S43) → Option (Bool)
 | 0, _, _, _, _, _, _ => none
 | k + 1, x3, x4, x5, x197000, x197001, x197002 => if x4 = x197000 then (spec_l02Reach.l0 k (wrap64 (x3 + 1)) x197000 x197001 x197002) else (if x4 > 0 then (if x5 ≤ (x197002.length : Int) then ((spec_l02Parent.f k x197000 x197001 x197002 x4).bind fun t10 => (spec_l02Reach.l1 k x3 t10 (wrap64 (x5 + 1)) x197000 x197001 x197002)) else (some false)) else (some false))
end
def spec_l02Reach.f (k : Nat) (a0_0 : Int) (a0_1 : Int) (l0_2 : List (S43)) : Option (Bool) := spec_l02Reach.l0 k 0 a0_0 a0_1 l0_2
theorem spec_l02Reach.calls (k : Nat) (a0_0 : Int) (a0_1 : Int) (A0_2 : Option Addr) (c0_2 : Nat) (l0_2 : List (S43)) (r : Bool) (w : World) (hr0_2 : Kd.C k43 w A0_2 l0_2.length l0_2) (hc0_2 : l0_2.length ≤ c0_2) (h : spec_l02Reach.f k a0_0 a0_1 l0_2 = some r) :
  Calls Try.prog 100 #[.agg #[.int .i64 a0_0, .int .i64 a0_1, .slice A0_2 l0_2.length c0_2]] w fun e w' => e = .returned (.bool r) ∧ Below w.heap.size w w' := by
 have hu29 := Try.underlying29
 have HR0_2 := Am hr0_2
 have HC0_2 := Am hc0_2
 clear hr0_2 hc0_2
 have HB := Am (Below.refl w.heap.size w)
 have H : (spec_l02Reach.l0 k 0 a0_0 a0_1 l0_2) = some r := h
 clear h
 have H' := Am H
 clear H
 go_enter Try.func100, Try.ntmps100
 go_wp2_with (first | ((with_reducible refine gate_dst (N := 1) rfl ?_); (try (refine gate_guard (by rfl) ?_; dsimp only)); refine Xbx 1 #[.int .i64 a0_0, .int .i64 a0_1, .slice A0_2 l0_2.length c0_2] 29 ?_; intro gb16 hg w2 B16 GE16 hb; replace HB := Xhb hb; clear hb hg))
 go_loopg [3] k (fun kq v3 w' => ∃ (x3_1 : Int), v3 = .int .i64 x3_1 ∧ Aside0 (spec_l02Reach.l0 kq x3_1 a0_0 a0_1 l0_2 = some r) ∧ Aside0 (kq ≤ k) ∧ Aside0 (w'.heap[gb16]? = some (.cells #[.int .i64 a0_0, .int .i64 a0_1, (.slice A0_2 l0_2.length c0_2)] 29 (0, 0))) ∧ Aside0 (Below w.heap.size w w'))
 case atStart => exact ⟨(0), Xr, H', Xkr, B16, ⟨Xi⟩⟩
 clear H'
 obtain ⟨x3_1, rfl, HA, HK1, B16, HB⟩ := hrel
 cases gk with | zero => cases HA.out | succ k1 => ?_
 have H := HA.out
 clear HA
 simp only [spec_l02Reach.l0] at H
 obtain ⟨c3b0, H⟩ | ⟨c3b0, H⟩ := Xit H
 ·obtain ⟨c4b0, H⟩ := Xid H
  have H' := Am H
  clear H
  obtain ⟨Z5_0, Z5_1, Z5_2⟩ := Xc3 B16
  obtain ⟨ad17, A197_4, c197_4, e17, p17, q17, hx17_0, hx17_1, hx17_2, hx17_3, hx17_4, HC17_4, HR17_4⟩ := at_B43 HR0_2 x3_1 Xa Xa HB
  cases e17
  go_wp2
  go_loopg [4, 5] k1 (fun kq v4 v5 w' => ∃ (x4_2 : Int) (x5_2 : Int), v4 = .int .i64 x4_2 ∧ v5 = .int .i64 x5_2 ∧ Aside0 (spec_l02Reach.l1 kq x3_1 x4_2 x5_2 a0_0 a0_1 l0_2 = some r) ∧ Aside0 (kq ≤ k1) ∧ Aside0 (w'.heap[gb16]? = some (.cells #[.int .i64 a0_0, .int .i64 a0_1, (.slice (some ad17) l0_2.length c0_2)] 29 (0, 0))) ∧ Aside0 (Below w.heap.size w w'))
  case atStart => exact ⟨((rd_T43 l0_2 x3_1).f0), (0), Xr, Xr, H', Xkr, B16, ⟨Xi⟩⟩
  clear H'
  (try clear c3); (try clear c3b0); (try clear c4); (try clear c4b0); (try clear Z5_0); (try clear Z5_1); (try clear Z5_2); (try clear hx17_0); (try clear hx17_1); (try clear hx17_2); (try clear hx17_3); (try clear hx17_4); (try clear p17); (try clear q17)
  obtain ⟨x4_2, x5_2, rfl, rfl, HA, HK2, B16, HB⟩ := hrel
  cases gk with | zero => cases HA.out | succ k2 => ?_
  have H := HA.out
  clear HA
  simp only [spec_l02Reach.l1] at H
  obtain ⟨c6, H⟩ | ⟨c6, H⟩ := Xiu H
  ·have c6b0 : (x4_2 == a0_0) = true := beq_iff_eq.mpr c6
   have c6b1 : (x4_2 != a0_0) = false := bne_eq_false_iff_eq.mpr c6
   clear c6
   have H' := Am H
   clear H
   obtain ⟨Z7_0, Z7_1, Z7_2⟩ := Xc3 B16
   go_wp2
   go_roundg k2
   case measure => have := HK1.out; have := HK2.out; omega
   case rel => exact ⟨(wrap64 (x3_1 + 1)), Xr, H', ⟨by have := HK1.out; have := HK2.out; omega⟩, B16, ⟨Xi⟩⟩
  have c6b0 : (x4_2 == a0_0) = false := beq_eq_false_iff_ne.mpr c6
  have c6b1 : (x4_2 != a0_0) = true := bne_iff_ne.mpr c6
  obtain ⟨c8, H⟩ | ⟨c8, H⟩ := Xiu H
  ·have c8b0 : decide (0 < x4_2) = true := decide_eq_true c8
   clear c8
   obtain ⟨c9b0, H⟩ | ⟨c9b0, H⟩ := Xit H
   ·obtain ⟨t18, A10, H⟩ := Xbi H
    try dsimp only at H
    have H' := Am H
    clear H
    obtain ⟨Z11_0, Z11_1, Z11_2⟩ := Xc3 B16
    go_wp2_with (first | ((with_reducible refine gate_callee (f := 57) rfl ?_); refine Xgo 36 Try.func57 #[.agg #[.int .i64 a0_0, .int .i64 a0_1, .slice (some ad17) l0_2.length c0_2], .int .i64 x4_2] ?_; (with_reducible refine (spec_l02Parent.calls k2 a0_0 a0_1 _ _ l0_2 x4_2 t18 _ ?s1 ?s2 A10.out).mono ?_); (case s1 => exact Xc HR0_2); (case s2 => exact HC0_2.out); rintro e w12 ⟨rfl, hb⟩; refine ⟨_, rfl, ?_⟩; replace B16 := Xbb B16 hb; replace HB := Xhb hb; clear hb))
    go_roundg k2
    case measure => have := HK1.out; have := HK2.out; omega
    case rel => exact ⟨(t18), (wrap64 (x5_2 + 1)), Xr, Xr, H', ⟨by have := HK1.out; have := HK2.out; omega⟩, B16, ⟨Xi⟩⟩
   obtain rfl := Xsi H
   obtain ⟨Z13_0, Z13_1, Z13_2⟩ := Xc3 B16
   go_wp2
   go_ret
   exact ⟨Xe, Xi⟩
  have c8b0 : decide (0 < x4_2) = false := decide_eq_false c8
  clear c8
  obtain rfl := Xsi H
  obtain ⟨Z14_0, Z14_1, Z14_2⟩ := Xc3 B16
  go_wp2
  go_ret
  exact ⟨Xe, Xi⟩
 obtain rfl := Xsi H
 obtain ⟨Z15_0, Z15_1, Z15_2⟩ := Xc3 B16
 go_wp2
 go_ret
 exact ⟨Xe, Xi⟩
def spec_l02OK.f (k : Nat) (a0_0 : Int) (a0_1 : Int) (l0_2 : List (S43)) : Option (Bool) := (spec_l01In.f (l0_2.length : Int) 1 40).bind fun t10 => (if t10 = true then ((spec_l01In.f a0_1 2 999999).bind fun t11 => (if t11 = true then ((spec_l02Nodes.f k a0_0 a0_1 l0_2).bind fun t12 => (if t12 = true then ((spec_l02Reach.f k a0_0 a0_1 l0_2).bind fun t13 => (if t13 = true then ((spec_l02Deep.f k a0_0 a0_1 l0_2 a0_0 6).bind fun t14 => (some (decide (t14 ≤ 6)))) else (some false))) else (some false))) else (some false))) else (some false))
theorem spec_l02OK.calls (k : Nat) (a0_0 : Int) (a0_1 : Int) (A0_2 : Option Addr) (c0_2 : Nat) (l0_2 : List (S43)) (r : Bool) (w : World) (hr0_2 : Kd.C k43 w A0_2 l0_2.length l0_2) (hc0_2 : l0_2.length ≤ c0_2) (h : spec_l02OK.f k a0_0 a0_1 l0_2 = some r) :
  Calls Try.prog 51 #[.agg #[.int .i64 a0_0, .int .i64 a0_1, .slice A0_2 l0_2.length c0_2]] w fun e w' => e = .returned (.bool r) ∧ Below w.heap.size w w' := by
 have hu29 := Try.underlying29
 have HR0_2 := Am hr0_2
 have HC0_2 := Am hc0_2
 clear hr0_2 hc0_2
 have HB := Am (Below.refl w.heap.size w)
 have H : ((spec_l01In.f (l0_2.length : Int) 1 40).bind fun t27 => (if t27 = true then ((spec_l01In.f a0_1 2 999999).bind fun t28 => (if t28 = true then ((spec_l02Nodes.f k a0_0 a0_1 l0_2).bind fun t30 => (if t30 = true then ((spec_l02Reach.f k a0_0 a0_1 l0_2).bind fun t31 => (if t31 = true then ((spec_l02Deep.f k a0_0 a0_1 l0_2 a0_0 6).bind fun t32 => (some (decide (t32 ≤ 6)))) else (some false))) else (some false))) else (some false))) else (some false))) = some r := h
 clear h
 have HC2 := Am H
 clear H
 go_enter Try.func51, Try.ntmps51
 go_upto_region 1 with ((with_reducible refine gate_dst (N := 1) rfl ?_); refine Xbx 1 #[.int .i64 a0_0, .int .i64 a0_1, .slice A0_2 l0_2.length c0_2] 29 ?_; intro gb33 hg w3 B33 GE33 hb; replace HB := Xhb hb; clear hb hg)
 have H := HC2.out
 clear HC2
 obtain ⟨t27, A4, H⟩ := Xbi H
 try dsimp only at H
 by_cases c5 : t27 = true
 ·subst c5
  try rw [if_pos rfl] at H
  obtain ⟨t28, A6, H⟩ := Xbi H
  try dsimp only at H
  by_cases c7 : t28 = true
  ·subst c7
   try rw [if_pos rfl] at H
   obtain ⟨t30, A8, H⟩ := Xbi H
   try dsimp only at H
   by_cases c9 : t30 = true
   ·subst c9
    try rw [if_pos rfl] at H
    obtain ⟨t31, A10, H⟩ := Xbi H
    try dsimp only at H
    by_cases c11 : t31 = true
    ·subst c11
     try rw [if_pos rfl] at H
     obtain ⟨t32, A12, H⟩ := Xbi H
     try dsimp only at H
     obtain rfl := Xsi H
     obtain ⟨Z13_0, Z13_1, Z13_2⟩ := Xc3 B33
     go_wp2_with (first | ((with_reducible refine gate_callee (f := 84) rfl ?_); refine Xgo 6 Try.func84 #[.int .i64 (l0_2.length : Int), .int .i64 1, .int .i64 40] ?_; (with_reducible refine (spec_l01In.calls (l0_2.length : Int) 1 40 true _ A4.out).mono ?_); rintro e w' ⟨rfl, ⟨nd, rfl⟩⟩; refine ⟨_, rfl, ?_⟩) | (go_at_call 84; (with_reducible refine (spec_l01In.calls a0_1 2 999999 true _ A6.out).mono ?_); rintro e w' ⟨rfl, ⟨nd, rfl⟩⟩) | (go_at_call 99; (with_reducible refine (spec_l02Nodes.calls k a0_0 a0_1 _ _ l0_2 true _ ?s1 ?s2 A8.out).mono ?_); (case s1 => exact Xc HR0_2); (case s2 => exact HC0_2.out); rintro e w14 ⟨rfl, hb⟩; replace B33 := Xbb B33 hb; replace HB := Xhb hb; clear hb; obtain ⟨Z15_0, Z15_1, Z15_2⟩ := Xc3 B33) | (go_at_call 100; (with_reducible refine (spec_l02Reach.calls k a0_0 a0_1 _ _ l0_2 true _ ?s1 ?s2 A10.out).mono ?_); (case s1 => exact Xc HR0_2); (case s2 => exact HC0_2.out); rintro e w16 ⟨rfl, hb⟩; replace B33 := Xbb B33 hb; replace HB := Xhb hb; clear hb; obtain ⟨Z17_0, Z17_1, Z17_2⟩ := Xc3 B33) | (go_at_call 96; (with_reducible refine (spec_l02Deep.calls k a0_0 a0_1 _ _ l0_2 a0_0 6 t32 _ ?s1 ?s2 A12.out).mono ?_); (case s1 => exact Xc HR0_2); (case s2 => exact HC0_2.out); rintro e w18 ⟨rfl, hb⟩; replace B33 := Xbb B33 hb; replace HB := Xhb hb; clear hb))
     go_ret
     exact ⟨Xe, Xi⟩
    replace c11 := Xbf c11
    subst c11
    try rw [if_neg Xft] at H
    obtain rfl := Xsi H
    obtain ⟨Z19_0, Z19_1, Z19_2⟩ := Xc3 B33
    go_wp2_with (first | ((with_reducible refine gate_callee (f := 84) rfl ?_); refine Xgo 6 Try.func84 #[.int .i64 (l0_2.length : Int), .int .i64 1, .int .i64 40] ?_; (with_reducible refine (spec_l01In.calls (l0_2.length : Int) 1 40 true _ A4.out).mono ?_); rintro e w' ⟨rfl, ⟨nd, rfl⟩⟩; refine ⟨_, rfl, ?_⟩) | (go_at_call 84; (with_reducible refine (spec_l01In.calls a0_1 2 999999 true _ A6.out).mono ?_); rintro e w' ⟨rfl, ⟨nd, rfl⟩⟩) | (go_at_call 99; (with_reducible refine (spec_l02Nodes.calls k a0_0 a0_1 _ _ l0_2 true _ ?s1 ?s2 A8.out).mono ?_); (case s1 => exact Xc HR0_2); (case s2 => exact HC0_2.out); rintro e w20 ⟨rfl, hb⟩; replace B33 := Xbb B33 hb; replace HB := Xhb hb; clear hb; obtain ⟨Z21_0, Z21_1, Z21_2⟩ := Xc3 B33) | (go_at_call 100; (with_reducible refine (spec_l02Reach.calls k a0_0 a0_1 _ _ l0_2 false _ ?s1 ?s2 A10.out).mono ?_); (case s1 => exact Xc HR0_2); (case s2 => exact HC0_2.out); rintro e w22 ⟨rfl, hb⟩; replace B33 := Xbb B33 hb; replace HB := Xhb hb; clear hb))
    go_ret
    exact ⟨Xe, Xi⟩
   replace c9 := Xbf c9
   subst c9
   try rw [if_neg Xft] at H
   obtain rfl := Xsi H
   obtain ⟨Z23_0, Z23_1, Z23_2⟩ := Xc3 B33
   go_wp2_with (first | ((with_reducible refine gate_callee (f := 84) rfl ?_); refine Xgo 6 Try.func84 #[.int .i64 (l0_2.length : Int), .int .i64 1, .int .i64 40] ?_; (with_reducible refine (spec_l01In.calls (l0_2.length : Int) 1 40 true _ A4.out).mono ?_); rintro e w' ⟨rfl, ⟨nd, rfl⟩⟩; refine ⟨_, rfl, ?_⟩) | (go_at_call 84; (with_reducible refine (spec_l01In.calls a0_1 2 999999 true _ A6.out).mono ?_); rintro e w' ⟨rfl, ⟨nd, rfl⟩⟩) | (go_at_call 99; (with_reducible refine (spec_l02Nodes.calls k a0_0 a0_1 _ _ l0_2 false _ ?s1 ?s2 A8.out).mono ?_); (case s1 => exact Xc HR0_2); (case s2 => exact HC0_2.out); rintro e w24 ⟨rfl, hb⟩; replace B33 := Xbb B33 hb; replace HB := Xhb hb; clear hb))
   go_ret
   exact ⟨Xe, Xi⟩
  replace c7 := Xbf c7
  subst c7
  try rw [if_neg Xft] at H
  obtain rfl := Xsi H
  obtain ⟨Z25_0, Z25_1, Z25_2⟩ := Xc3 B33
  go_wp2_with (first | ((with_reducible refine gate_callee (f := 84) rfl ?_); refine Xgo 6 Try.func84 #[.int .i64 (l0_2.length : Int), .int .i64 1, .int .i64 40] ?_; (with_reducible refine (spec_l01In.calls (l0_2.length : Int) 1 40 true _ A4.out).mono ?_); rintro e w' ⟨rfl, ⟨nd, rfl⟩⟩; refine ⟨_, rfl, ?_⟩) | (go_at_call 84; (with_reducible refine (spec_l01In.calls a0_1 2 999999 false _ A6.out).mono ?_); rintro e w' ⟨rfl, ⟨nd, rfl⟩⟩))
  go_ret
  exact ⟨Xe, Xi⟩
 replace c5 := Xbf c5
 subst c5
 try rw [if_neg Xft] at H
 obtain rfl := Xsi H
 obtain ⟨Z26_0, Z26_1, Z26_2⟩ := Xc3 B33
 go_wp2_with (first | ((with_reducible refine gate_callee (f := 84) rfl ?_); refine Xgo 6 Try.func84 #[.int .i64 (l0_2.length : Int), .int .i64 1, .int .i64 40] ?_; (with_reducible refine (spec_l01In.calls (l0_2.length : Int) 1 40 false _ A4.out).mono ?_); rintro e w' ⟨rfl, ⟨nd, rfl⟩⟩; refine ⟨_, rfl, ?_⟩))
 go_ret
 exact ⟨Xe, Xi⟩
mutual
def spec_l02Order.l0 : Nat → List Int → List Int → Int → Int → Int → List (S43) → Option (List Int)
 | 0, _, _, _, _, _, _ => none
 | k + 1, x5, x6, x7, x206000, x206001, x206002 => if x7 < (x6.length : Int) then (if 0 ≤ x7 then ((spec_l02Order.f k x206000 x206001 x206002 (rd x6 x7)).bind fun t10 => (if x5.length + t10.length < 17592186044416 then (spec_l02Order.l0 k (x5 ++ t10) x6 (wrap64 (x7 + 1)) x206000 x206001 x206002) else (none))) else (none)) else (some x5)
def spec_l02Order.f : Nat → Int → Int → List (S43) → Int → Option (List Int)
 | 0, _, _, _, _ => none
 | k + 1, a0_0, a0_1, l0_2, a1 => (spec_l02At.f k a0_0 a0_1 l0_2 a1).bind fun t10 => (if 0 ≤ t10 then (if t10 < (l0_2.length : Int) then (spec_l02Order.l0 k (([a1] : List Int)) ((rd_T43 l0_2 t10).f4) 0 a0_0 a0_1 l0_2) else (none)) else (none))
end
def spec_l02Order.T2 : Bool × List (List Nat × List Nat) := (true, [([], []), ([0], [0]), ([], []), ([], []), ([2, 3], [2, 3]), ([1, 4], [1, 4]), ([5], [5]), ([6], [6]), ([7, 4, 0, 1, 2, 3, 4, 5, 6, 7], [7])])
def spec_l02Order.B2 : List Nat := [0, 1, 0, 0, 12, 31, 63, 127, 255]
theorem spec_l02Order.tab2 : rtab .any (opsOf Try.f65 2) = spec_l02Order.T2 := by kernel_rfl
theorem spec_l02Order.bits2 : waitsOk spec_l02Order.T2.2 spec_l02Order.B2 = true := by kernel_rfl
def spec_l02Order.T6 : Bool × List (List Nat × List Nat) := (true, [([], []), ([], []), ([], []), ([], []), ([2, 3], [2, 3]), ([4], [4]), ([1, 5], [1, 5]), ([0, 6, 6], [0, 6]), ([7, 7, 0, 1, 2, 3, 4, 5, 6, 7], [0, 7])])
def spec_l02Order.B6 : List Nat := [0, 0, 0, 0, 12, 28, 62, 127, 255]
theorem spec_l02Order.tab6 : rtab .any (opsOf Try.f65 6) = spec_l02Order.T6 := by kernel_rfl
theorem spec_l02Order.bits6 : waitsOk spec_l02Order.T6.2 spec_l02Order.B6 = true := by kernel_rfl
theorem spec_l02Order.calls (k : Nat) : ∀ (a0_0 : Int) (a0_1 : Int) (A0_2 : Option Addr) (c0_2 : Nat) (l0_2 : List (S43)) (a1 : Int) (r : List Int) (w : World) (hr0_2 : Kd.C k43 w A0_2 l0_2.length l0_2) (hc0_2 : l0_2.length ≤ c0_2) (h : spec_l02Order.f k a0_0 a0_1 l0_2 a1 = some r),
  Calls Try.prog 65 #[.agg #[.int .i64 a0_0, .int .i64 a0_1, .slice A0_2 l0_2.length c0_2], .int .i64 a1] w fun e w' => ∃ v0_ : Value, e = .returned (v0_) ∧ Kd.R (Kd.int .i64) 3 w' w.heap.size (fun _ => True) v0_ r ∧ Below w.heap.size w w' := by
 induction k using Nat.strongRecOn with
 | _ k ih =>
 intro a0_0 a0_1 A0_2 c0_2 l0_2 a1 r w hr0_2 hc0_2 h
 cases k with
 | zero => exact absurd h (by simp [spec_l02Order.f])
 | succ k =>
 simp only [spec_l02Order.f] at h
 have hu29 := Try.underlying29
 have HR0_2 := Am hr0_2
 have HC0_2 := Am hc0_2
 clear hr0_2 hc0_2
 have HB := Am (Below.refl w.heap.size w)
 have H : ((spec_l02At.f k a0_0 a0_1 l0_2 a1).bind fun t19 => (if 0 ≤ t19 then (if t19 < (l0_2.length : Int) then (spec_l02Order.l0 k (([a1] : List Int)) ((rd_T43 l0_2 t19).f4) 0 a0_0 a0_1 l0_2) else (none)) else (none))) = some r := h
 clear h
 obtain ⟨y20, hy20⟩ : ∃ y_ : List Int, y_ = (([a1] : List Int)) := ⟨_, rfl⟩
 replace H : ((spec_l02At.f k a0_0 a0_1 l0_2 a1).bind fun t19 => (if 0 ≤ t19 then (if t19 < (l0_2.length : Int) then (spec_l02Order.l0 k y20 ((rd_T43 l0_2 t19).f4) 0 a0_0 a0_1 l0_2) else (none)) else (none))) = some r := by first | (rw [hy20]; with_reducible exact H) | (have H2_ := (Option.bind_some _ _).symm.trans H; rw [hy20]; with_reducible exact H2_) | (have H2_ := (Option.bind_some _ _).symm.trans H; with_reducible exact H2_) | with_reducible exact H | (rw [hy20]; exact H) | exact H
 have Ny20 := Am hy20
 clear hy20
 obtain ⟨t19, A3, H⟩ := Xbi H
 try dsimp only at H
 obtain ⟨c4, H⟩ | ⟨c4, H⟩ := Xiu H
 ·have c4b0 : decide (0 ≤ t19) = true := decide_eq_true c4
  clear c4
  obtain ⟨c5b0, H⟩ := Xid H
  have H' := Am H
  clear H
  go_enter Try.func65, Try.ntmps65
  try go_wp2_with (first | ((with_reducible refine gate_dst (N := 2) rfl ?_); refine Xbx 2 #[.int .i64 a0_0, .int .i64 a0_1, .slice A0_2 l0_2.length c0_2] 29 ?_; intro gb21 hg w6 B21 GE21 hb; replace HB := Xhb hb; clear hb hg) | ((with_reducible refine gate_dst (N := 9) rfl ?_); refine Kd.R_lit (Kd.int .i64) _ 3 ?hg (N := 9) ?hd (xs := ([a1] : List Int)) (inner := [.int .i64 a1]) (ok := fun _ => True) (okp := fun _ => True) ?hr ?hp (fun _ hk => hk) trivial (Below.refl _ _) (Nat.le_refl _) (by simp) ?_; (case hd => rfl); (case hg => rfl); (case hr => first | (go_simp; done) | (go_simp; rfl)); (case hp => exact (Reps.one (show Kd.M (Kd.int .i64) _ _ _ a1 [.int .i64 a1] from rfl) (Reps.none _ _))); intro v207 w7 ho8 hb hg_ hnew_; clear hg_ hnew_; (first | rw [← Ny20.out] at ho8 | (simp only [Int.reduceToNat] at ho8; rw [← Ny20.out] at ho8)); have HO22 := Am (Kd.R_lower ho8 (below_size Xi)); replace B21 := Xbb B21 hb; replace HB := Xhb hb; clear hb ho8))
  replace HO22 := Am (Kd.R_drew HO22.out)
  replace B21 := Xbd B21
  replace HB := Xhd HB
  have p23 : 0 ≤ (t19 : Int) := Xo
  have q23 : t19 < (l0_2.length : Int) := Xo
  obtain ⟨ad23, A210_4, c210_4, e23, hx23_0, hx23_1, hx23_2, hx23_3, hx23_4, hl210_4, hi210_4⟩ := at_T43 HR0_2.out t19 p23 q23
  have hw210_4 := hx23_4
  have hw210_3 := hx23_3
  have hw210_2 := hx23_2
  have hw210_1 := hx23_1
  have hw210_0 := hx23_0
  cases e23
  replace hx23_0 := Xm HB hx23_0
  replace hx23_1 := Xm HB hx23_1
  replace hx23_2 := Xm HB hx23_2
  replace hx23_3 := Xm HB hx23_3
  replace hx23_4 := Xm HB hx23_4
  have HR23_4 := Am hi210_4
  have HC23_4 := Am hl210_4
  clear hi210_4 hl210_4
  replace p23 := eq_true p23
  replace q23 := eq_true q23
  refine Sx 9 (fun w' => w'.cell? ⟨gb21, 0, none⟩ = some (.int .i64 a0_0) ∧ w'.cell? ⟨gb21, 1, none⟩ = some (.int .i64 a0_1) ∧ w'.cell? ⟨gb21, 2, none⟩ = some (.slice (some ad23) l0_2.length c0_2) ∧ w'.cell? (ad23.add ((t19).toNat * 5)) = some (.int .i64 ((rd_T43 l0_2 t19).f0)) ∧ w'.cell? ⟨(ad23.add ((t19).toNat * 5)).block, (ad23.add ((t19).toNat * 5)).off + 1, none⟩ = some (.int .i64 ((rd_T43 l0_2 t19).f1)) ∧ w'.cell? ⟨(ad23.add ((t19).toNat * 5)).block, (ad23.add ((t19).toNat * 5)).off + 2, none⟩ = some (.int .i64 ((rd_T43 l0_2 t19).f2)) ∧ w'.cell? ⟨(ad23.add ((t19).toNat * 5)).block, (ad23.add ((t19).toNat * 5)).off + 3, none⟩ = some (.string ((rd_T43 l0_2 t19).f3)) ∧ w'.cell? ⟨(ad23.add ((t19).toNat * 5)).block, (ad23.add ((t19).toNat * 5)).off + 4, none⟩ = some (.slice A210_4 ((rd_T43 l0_2 t19).f4).length c210_4)) ⟨Xk B21 0, Xk B21 1, Xk B21 2, Xn hw210_0, Xn hw210_1, Xn hw210_2, Xn hw210_3, Xn hw210_4⟩ (fun hHeld => ?_); refine with_tabW spec_l02Order.tab2 spec_l02Order.bits2 (fun HT_ HW_ => ?_)
  generalize w7.drew = w9 at HO22 B21 HB HR23_4 hx23_0 hx23_1 hx23_2 hx23_3 hx23_4 hHeld ⊢
  refine Pu 0 10 9 1 ?_
  refine Pu 3 13 9 9 ?_
  refine Ta 1 11 9 11 ?_
  refine Ta 2 12 9 15 ?_
  refine On 4 14 9 31 (fun K hK => ?_)
  refine Gs Try.func74 #[.agg #[.int .i64 a0_0, .int .i64 a0_1, .slice (some ad23) l0_2.length c0_2], .int .i64 a1] ?_
  with_reducible refine (spec_l02At.calls k a0_0 a0_1 _ _ l0_2 a1 t19 _ ?s1 ?s2 A3.out).mono ?_
  (case s1 => exact Xc HR0_2)
  (case s2 => exact HC0_2.out)
  rintro e w10 ⟨rfl, hb⟩
  refine ⟨_, rfl, ?_⟩
  replace HO22 := Am (Kd.R_below (Xq HO22) hb)
  replace B21 := Xbb B21 hb
  replace HB := Xhb hb
  try clear hb
  try clear hb2
  try clear hk
  try clear hi
  refine hK.out _ _ ⟨Xk B21 0, Xk B21 1, Xk B21 2, Xn hw210_0, Xn hw210_1, Xn hw210_2, Xn hw210_3, Xn hw210_4⟩ (fun hHeld => ?_)
  clear hK K
  refine Xno ?_
  refine Pu 5 15 9 63 ?_
  refine Pu 6 16 9 127 ?_
  refine Ta 7 17 9 255 ?_
  refine Pu 8 6 9 511 ?_
  refine Dn ?_
  try go_wp2_with (fail)
  go_loopg [5, 7] k (fun kq v5 v7 w' => ∃ (x5_1 : List Int) (x7_1 : Int), v7 = .int .i64 x7_1 ∧ Aside0 (spec_l02Order.l0 kq x5_1 ((rd_T43 l0_2 t19).f4) x7_1 a0_0 a0_1 l0_2 = some r) ∧ Aside0 (kq ≤ k) ∧ Aside0 (Kd.R (Kd.int .i64) 3 w' w.heap.size (fun _ => True) v5 x5_1) ∧ Aside0 (w'.heap[gb21]? = some (.cells #[.int .i64 a0_0, .int .i64 a0_1, (.slice (some ad23) l0_2.length c0_2)] 29 (0, 0))) ∧ Aside0 (Below w.heap.size w w'))
  case atStart => exact ⟨(y20), (0), Xr, H', Xkr, (Xp' HO22), (Xp B21), ⟨Xi⟩⟩
  clear H'
  (try clear c4); (try clear c4b0); (try clear c5); (try clear c5b0); (try clear hx23_0); (try clear hx23_1); (try clear hx23_2); (try clear hx23_3); (try clear hx23_4); (try clear p23); (try clear q23)
  obtain ⟨x5_1, x7_1, rfl, HA, HK1, O_5, B21, HB⟩ := hrel
  cases gk with | zero => cases HA.out | succ k1 => ?_
  have H := HA.out
  clear HA
  simp only [spec_l02Order.l0] at H
  obtain ⟨c11b0, H⟩ | ⟨c11b0, H⟩ := Xit H
  ·obtain ⟨c12b0, H⟩ := Xid H
   obtain ⟨t24, A13, H⟩ := Xbi H
   try dsimp only at H
   obtain ⟨c14, H⟩ := Xif H
   have LMc14 := Am c14
   clear c14
   obtain ⟨y25, hy25⟩ : ∃ y_ : List Int, y_ = (x5_1 ++ t24) := ⟨_, rfl⟩
   replace H : (spec_l02Order.l0 k1 y25 ((rd_T43 l0_2 t19).f4) (wrap64 (x7_1 + 1)) a0_0 a0_1 l0_2) = some r := by first | (rw [hy25]; with_reducible exact H) | (have H2_ := (Option.bind_some _ _).symm.trans H; rw [hy25]; with_reducible exact H2_) | (have H2_ := (Option.bind_some _ _).symm.trans H; with_reducible exact H2_) | with_reducible exact H | (rw [hy25]; exact H) | exact H
   have Ny25 := Am hy25
   clear hy25
   have H' := Am H
   clear H
   try go_wp2_with (fail)
   replace O_5 := Am (Kd.R_drew O_5.out)
   replace B21 := Xbd B21
   replace HB := Xhd HB
   have p26 : 0 ≤ (x7_1 : Int) := Xo
   have q26 : x7_1 < (((rd_T43 l0_2 t19).f4).length : Int) := Xo
   obtain ⟨ad26, e26, hx26_0⟩ := Kd.at_int HR23_4.out x7_1 p26 q26
   have hw211_0 := hx26_0
   cases e26
   replace hx26_0 := Xm HB hx26_0
   replace p26 := eq_true p26
   replace q26 := eq_true q26
   refine Sx 9 (fun w' => w'.cell? ⟨gb21, 0, none⟩ = some (.int .i64 a0_0) ∧ w'.cell? ⟨gb21, 1, none⟩ = some (.int .i64 a0_1) ∧ w'.cell? ⟨gb21, 2, none⟩ = some (.slice (some ad23) l0_2.length c0_2) ∧ w'.cell? (ad26.add (x7_1).toNat) = some (.int .i64 (rd ((rd_T43 l0_2 t19).f4) x7_1))) ⟨Xk B21 0, Xk B21 1, Xk B21 2, Xn hw211_0⟩ (fun hHeld => ?_); refine with_tabW spec_l02Order.tab6 spec_l02Order.bits6 (fun HT_ HW_ => ?_)
   generalize wr.drew = w15 at O_5 B21 HB hx26_0 hHeld ⊢
   refine Pu 0 24 9 1 ?_
   refine Pu 2 26 9 5 ?_
   refine Pu 3 27 9 13 ?_
   refine Pu 4 28 9 29 ?_
   refine Ta 1 25 9 31 ?_
   refine Ta 5 29 9 63 ?_
   refine On 6 30 9 127 (fun K hK => ?_)
   refine Gs Try.func65 #[.agg #[.int .i64 a0_0, .int .i64 a0_1, .slice (some ad23) l0_2.length c0_2], .int .i64 (rd ((rd_T43 l0_2 t19).f4) x7_1)] ?_
   with_reducible refine (ih k1 (by have := HK1.out; omega) a0_0 a0_1 _ _ l0_2 (rd ((rd_T43 l0_2 t19).f4) x7_1) t24 _ ?s1 ?s2 A13.out).mono ?_
   (case s1 => exact Xc HR0_2)
   (case s2 => exact HC0_2.out)
   rintro e w16 ⟨v213, rfl, ho0, hb⟩
   refine ⟨_, rfl, ?_⟩
   have HO27 := Am (Kd.R_lower (Kd.R_new' ho0 (Kd.R_lt (Xq O_5))) (below_size Xi))
   replace O_5 := Am (Kd.R_elder' (Xq O_5) (Kd.R_base ho0) hb)
   replace B21 := Xbb B21 hb
   replace HB := Xhb hb
   try clear hb
   try clear hb2
   try clear hk
   try clear hi
   try clear ho0
   obtain ⟨Ao18, co18, eo18⟩ := Kd.R_slice HO27.out
   (first | subst eo18 | (injection eo18 with f1_ f2_ f3_; have f4_ := f1_.symm; have f5_ := f3_.symm; clear f1_ f2_ f3_; subst f4_; subst f5_))
   refine hK.out _ _ ⟨Xk B21 0, Xk B21 1, Xk B21 2, Xn hw211_0⟩ (fun hHeld => ?_)
   clear hK K
   refine Xno ?_
   refine On 7 31 9 255 (fun K hK => ?_)
   refine Kd.R_append_rows_step (Kd.int .i64) (w0 := w) w.heap.size (by rfl) (.tmp 24) (.tmp 30) 37 3 (.int .i64 0) 8 rfl Try.underlying37 info3 rfl (by decide) (by omega) u5 x5_1 t24 _ _ _ (fun k_ => some k_ ≠ (.slice Ao18 t24.length co18 : Value).ownBlock) (fun _ => False) rfl rfl ?aO ?aR (fun _ _ h => h) (fun _ h => h.elim) ?aF ?aB ?aS ?aL ?_
   (case aR => exact Xcd (Kd.R_reads' HO27.out).2.2)
   (case aB => exact Xi)
   (case aF => exact (fun k_ hk => Kd.fresh' (Kd.R_lt (Xq HO27)) k_ hk))
   (case aO => exact (by (with_reducible repeat (first | apply Kd.R_alloc | apply Kd.R_drewN | apply Kd.R_drew)); exact Kd.R_mono O_5.out (fun _ hk => hk.2)))
   (case aS => exact (below_size Xi))
   (case aL => have := LMc14.out; omega)
   intro v216 w17 ho hb hg hat
   rw [← Ny25.out] at ho
   replace B21 := Am (blk_grown (g := gb21) (o := .cells #[.int .i64 a0_0, .int .i64 a0_1, .slice (some ad23) l0_2.length c0_2] 29 (0, 0)) (Xq' B21) hg (Kd.R_ne O_5.out B21.out (by decide)))
   replace HO27 := Am (Kd.R_after (ok := (fun _ => True)) (Xq HO27) hg hat)
   replace HB := Am (hb)
   have HO28 := Am (ho)
   clear O_5
   clear ho hb hg hat
   refine hK.out _ _ ⟨Xk B21 0, Xk B21 1, Xk B21 2, Xn hw211_0⟩ (fun hHeld => ?_)
   clear hK K
   refine Xno ?_
   refine Pu 8 5 9 511 ?_
   refine Dn ?_
   try go_wp2_with (fail)
   go_roundg k1
   case measure => have := HK1.out; omega
   case rel => exact ⟨(y25), (wrap64 (x7_1 + 1)), Xr, H', Xk1, ⟨by (with_reducible repeat (first | apply Kd.R_alloc | apply Kd.R_drewN | apply Kd.R_drew)); exact Kd.R_mono HO28.out (fun _ hk => trivial)⟩, (Xp B21), ⟨Xi⟩⟩
  obtain rfl := Xsi H
  go_wp2
  go_ret
  exact ⟨_, Xe, Xq O_5, Xi⟩
 exact absurd H (by simp)
def spec_l02OwnNode.f (a0_0 : Int) (a0_1 : Int) (a0_2 : Int) (a0_3 : ByteArray) (l0_4 : List Int) : Option (Int × Int × Int × ByteArray × List Int) := (some (([] : List Int) : List Int)).bind fun y10 => (if y10.length + l0_4.length < 17592186044416 then (some (a0_0, a0_1, a0_2, a0_3, (y10 ++ l0_4))) else (none))
theorem spec_l02OwnNode.calls (a0_0 : Int) (a0_1 : Int) (a0_2 : Int) (a0_3 : ByteArray) (A0_4 : Option Addr) (c0_4 : Nat) (l0_4 : List Int) (r1 : Int) (r2 : Int) (r3 : Int) (r4 : ByteArray) (r5 : List Int) (w : World) (hr0_4 : Kd.C (Kd.int .i64) w A0_4 l0_4.length l0_4) (hc0_4 : l0_4.length ≤ c0_4) (h : spec_l02OwnNode.f a0_0 a0_1 a0_2 a0_3 l0_4 = some (r1, r2, r3, r4, r5)) :
  Calls Try.prog 73 #[.agg #[.int .i64 a0_0, .int .i64 a0_1, .int .i64 a0_2, .string a0_3, .slice A0_4 l0_4.length c0_4]] w fun e w' => ∃ v4_ : Value, e = .returned (.agg #[.int .i64 r1, .int .i64 r2, .int .i64 r3, .string r4, v4_]) ∧ Kd.R (Kd.int .i64) 3 w' w.heap.size (fun _ => True) v4_ r5 ∧ Below w.heap.size w w' := by
 have hu43 := Try.underlying43
 have HR0_4 := Am hr0_4
 have HC0_4 := Am hc0_4
 clear hr0_4 hc0_4
 have HB := Am (Below.refl w.heap.size w)
 have H : ((some (([] : List Int) : List Int)).bind fun y14 => (if y14.length + l0_4.length < 17592186044416 then (some (a0_0, a0_1, a0_2, a0_3, (y14 ++ l0_4))) else (none))) = some (r1, r2, r3, r4, r5) := h
 clear h
 obtain ⟨y14, hy14⟩ : ∃ y_ : List Int, y_ = (([] : List Int)) := ⟨_, rfl⟩
 replace H : (if y14.length + l0_4.length < 17592186044416 then (some (a0_0, a0_1, a0_2, a0_3, (y14 ++ l0_4))) else (none)) = some (r1, r2, r3, r4, r5) := by first | (rw [hy14]; with_reducible exact H) | (have H2_ := (Option.bind_some _ _).symm.trans H; rw [hy14]; with_reducible exact H2_) | (have H2_ := (Option.bind_some _ _).symm.trans H; with_reducible exact H2_) | with_reducible exact H | (rw [hy14]; exact H) | exact H
 have Ny14 := Am hy14
 clear hy14
 obtain ⟨c2, H⟩ | ⟨c2, H⟩ := Xiu H
 ·have LMc2 := Am c2
  clear c2
  obtain ⟨y15, hy15⟩ : ∃ y_ : List Int, y_ = (y14 ++ l0_4) := ⟨_, rfl⟩
  replace H : (some (a0_0, a0_1, a0_2, a0_3, y15)) = some (r1, r2, r3, r4, r5) := by first | (rw [hy15]; with_reducible exact H) | (have H2_ := (Option.bind_some _ _).symm.trans H; rw [hy15]; with_reducible exact H2_) | (have H2_ := (Option.bind_some _ _).symm.trans H; with_reducible exact H2_) | with_reducible exact H | (rw [hy15]; exact H) | exact H
  have Ny15 := Am hy15
  clear hy15
  simp only [Option.some.injEq, Prod.mk.injEq] at H
  obtain ⟨rfl, rfl, rfl, rfl, rfl⟩ := H
  go_enter Try.func73, Try.ntmps73
  go_wp2_with (first | ((with_reducible refine gate_dst (N := 1) rfl ?_); refine Xbx 1 #[.int .i64 a0_0, .int .i64 a0_1, .int .i64 a0_2, .string a0_3, .slice A0_4 l0_4.length c0_4] 43 ?_; intro gb16 hg w3 B16 GE16 hb; replace HB := Xhb hb; clear hb hg) | ((with_reducible refine gate_dst (N := 2) rfl ?_); refine Xbx 2 #[.int .i64 0, .int .i64 0, .int .i64 0, .string (⟨#[]⟩ : ByteArray), .slice none 0 0] 43 ?_; intro gb17 hg w4 B17 GE17 hb; replace HB := Xhb hb; have NB16_17 := Xnb hg B16; have NB17_16 := Xns NB16_17; replace B16 := Xbb B16 hb; clear hb hg) | ((with_reducible refine gate_dst (N := 3) rfl ?_); refine Kd.R_lit (Kd.int .i64) _ 3 ?hg (N := 3) ?hd (xs := ([] : List Int)) (inner := []) (ok := fun _ => True) (okp := fun _ => True) ?hr ?hp (fun _ hk => hk) trivial (Below.refl _ _) (Nat.le_refl _) (by simp) ?_; (case hd => rfl); (case hg => rfl); (case hr => first | (go_simp; done) | (go_simp; rfl)); (case hp => exact (Reps.none _ _)); intro v221 w5 ho6 hb hg_ hnew_; clear hg_ hnew_; (first | rw [← Ny14.out] at ho6 | (simp only [Int.reduceToNat] at ho6; rw [← Ny14.out] at ho6)); have HO18 := Am (Kd.R_lower ho6 (below_size Xi)); replace B16 := Xbb B16 hb; replace B17 := Xbb B17 hb; replace HB := Xhb hb; clear hb ho6; have hnb7 := NB16_17.out; have hnc7 := NB17_16.out; obtain ⟨Z8_0, Z8_1, Z8_2, Z8_3, Z8_4⟩ := Xc5 B16; obtain ⟨F8_0, F8_1, F8_2, F8_3, F8_4⟩ := Xf5 B16) | ((with_reducible refine gate_builtin (b := .append) (xs := #[.tmp 3, .tmp 5]) rfl ?_); at_builtin; refine Kd.R_append_rows (Kd.int .i64) (w0 := w) w.heap.size rfl (.tmp 3) (.tmp 5) 37 3 (.int .i64 0) 8 rfl Try.underlying37 info3 rfl (by decide) (by omega) v221 y14 l0_4 _ _ _ (fun _ => True) (fun _ => False) rfl rfl ?aO ?aR (fun _ _ h => h) (fun _ h => h.elim) ?aF ?aB ?aS ?aL ?_; (case aR => exact Xcd (Kd.C_below HR0_4.out HB.out)); (case aB => exact Xi); (case aF => exact (fun _ _ => trivial)); (case aO => exact (Xq HO18)); (case aS => exact (below_size Xi)); (case aL => have := LMc2.out; omega); intro v224 w9 ho hb hg hat; rw [← Ny15.out] at ho; replace B16 := Am (blk_grown (g := gb16) (o := .cells #[.int .i64 a0_0, .int .i64 a0_1, .int .i64 a0_2, .string a0_3, .slice A0_4 l0_4.length c0_4] 43 (0, 0)) (Xq' B16) hg (Kd.R_ne HO18.out B16.out (by decide))); replace B17 := Am (blk_grown (g := gb17) (o := .cells #[.int .i64 0, .int .i64 0, .int .i64 0, .string (⟨#[]⟩ : ByteArray), .slice none 0 0] 43 (0, 0)) (Xq' B17) hg (Kd.R_ne HO18.out B17.out (by decide))); replace HB := Am (hb); have HO19 := Am (ho); clear HO18; clear ho hb hg hat; obtain ⟨Ao10, co10, eo10⟩ := Kd.R_slice HO19.out; subst eo10; obtain ⟨Z11_0, Z11_1, Z11_2, Z11_3, Z11_4⟩ := Xc5 B16; obtain ⟨F11_0, F11_1, F11_2, F11_3, F11_4⟩ := Xf5 B16; obtain ⟨Z12_0, Z12_1, Z12_2, Z12_3, Z12_4⟩ := Xc5 B17; obtain ⟨F12_0, F12_1, F12_2, F12_3, F12_4⟩ := Xf5 B17) | ((with_reducible refine gate_store (t := 43) (p := 2) rfl ?_); refine store_event (t := 43) (p := 2) (v := ?vo_w13) (w1 := ((((((w9.setCell ⟨gb16, 4, none⟩ (.slice Ao10 y15.length co10)).setCell ⟨gb17, 0, none⟩ (.int .i64 a0_0)).setCell ⟨gb17, 1, none⟩ (.int .i64 a0_1)).setCell ⟨gb17, 2, none⟩ (.int .i64 a0_2)).setCell ⟨gb17, 3, none⟩ (.string a0_3)).setCell ⟨gb17, 4, none⟩ (.slice Ao10 y15.length co10))) ?hg ?ho ?hn ?hr ?_; (case ho => rfl); (case hg => rfl); (case hn => rfl); (case hr => first | (go_simp; done) | (go_simp; rfl)); intro w13 hw; have n0_ : Aside0 (Kd.R (Kd.int .i64) 3 w13 w.heap.size (fun _ => True) (.slice Ao10 y15.length co10) y15) := ⟨(by rw [hw]; exact (by (with_reducible repeat (first | apply Kd.R_alloc | apply Kd.R_drewN | apply Kd.R_drew)); exact Kd.R_mono (Kd.R_far (p := ⟨gb17, 4, none⟩) (Kd.R_far (p := ⟨gb17, 3, none⟩) (Kd.R_far (p := ⟨gb17, 2, none⟩) (Kd.R_far (p := ⟨gb17, 1, none⟩) (Kd.R_far (p := ⟨gb17, 0, none⟩) (Kd.R_far (p := ⟨gb16, 4, none⟩) (Kd.R_types (Kd.R_types HO19.out B16.out (by decide)) B17.out (by decide)) (fun _ hk => hk.1.2) (.slice Ao10 y15.length co10)) (fun _ hk => hk.2) (.int .i64 a0_0)) (fun _ hk => hk.2) (.int .i64 a0_1)) (fun _ hk => hk.2) (.int .i64 a0_2)) (fun _ hk => hk.2) (.string a0_3)) (fun _ hk => hk.2) (.slice Ao10 y15.length co10)) (fun _ hk => trivial)))⟩; have n1_ : Aside0 (w13.heap[gb16]? = some (.cells #[.int .i64 a0_0, .int .i64 a0_1, .int .i64 a0_2, .string a0_3, .slice Ao10 y15.length co10] 43 (0, 0))) := ⟨(by rw [hw]; exact (by refine Xu ?_; refine blk_far ?_ NB16_17.out _; refine Xu ?_; refine blk_far ?_ NB16_17.out _; refine Xu ?_; refine blk_far ?_ NB16_17.out _; refine Xu ?_; refine blk_far ?_ NB16_17.out _; refine Xu ?_; refine blk_far ?_ NB16_17.out _; refine Xu ?_; refine blk_put (cs := #[.int .i64 a0_0, .int .i64 a0_1, .int .i64 a0_2, .string a0_3, .slice A0_4 l0_4.length c0_4]) ?_ 4 _ rfl; refine Xu ?_; exact B16.out))⟩; have n2_ : Aside0 (w13.heap[gb17]? = some (.cells #[.int .i64 a0_0, .int .i64 a0_1, .int .i64 a0_2, .string a0_3, .slice Ao10 y15.length co10] 43 (0, 0))) := ⟨(by rw [hw]; exact (by refine Xu ?_; refine blk_put (cs := #[.int .i64 a0_0, .int .i64 a0_1, .int .i64 a0_2, .string a0_3, .slice none 0 0]) ?_ 4 _ rfl; refine Xu ?_; refine blk_put (cs := #[.int .i64 a0_0, .int .i64 a0_1, .int .i64 a0_2, .string (⟨#[]⟩ : ByteArray), .slice none 0 0]) ?_ 3 _ rfl; refine Xu ?_; refine blk_put (cs := #[.int .i64 a0_0, .int .i64 a0_1, .int .i64 0, .string (⟨#[]⟩ : ByteArray), .slice none 0 0]) ?_ 2 _ rfl; refine Xu ?_; refine blk_put (cs := #[.int .i64 a0_0, .int .i64 0, .int .i64 0, .string (⟨#[]⟩ : ByteArray), .slice none 0 0]) ?_ 1 _ rfl; refine Xu ?_; refine blk_put (cs := #[.int .i64 0, .int .i64 0, .int .i64 0, .string (⟨#[]⟩ : ByteArray), .slice none 0 0]) ?_ 0 _ rfl; refine Xu ?_; refine blk_far ?_ NB17_16.out _; refine Xu ?_; exact B17.out))⟩; have n3_ : Aside0 (Below w.heap.size w w13) := ⟨(by rw [hw]; exact Xi)⟩; clear hw; clear HO19; clear B16; clear B17; clear HB; have HO19 := n0_; have B16 := n1_; have B17 := n2_; have HB := n3_; clear n0_ n1_ n2_ n3_))
  refine bodyPost_ret (results_cell_row rfl _ _ gb17 43 #[.int .i64 a0_0, .int .i64 a0_1, .int .i64 a0_2, .string a0_3, .slice Ao10 y15.length co10] (0, 0) _ rfl (Xq' B17) Try.underlying43 rfl (by kernel_rfl)) rfl ?_
  exact ⟨_, Xe, Xq HO19, Xi⟩
 exact absurd H (by simp)
def spec_l02Index.l0 : Nat → List Int → Int → Int → Option (Int)
 | 0, _, _, _ => none
 | k + 1, x0, x1, x5 => if x5 < (x0.length : Int) then (if 0 ≤ x5 then (if (rd x0 x5) = x1 then (some x5) else (spec_l02Index.l0 k x0 x1 (wrap64 (x5 + 1)))) else (none)) else (some (-1))
def spec_l02Index.f (k : Nat) (l0 : List Int) (a1 : Int) : Option (Int) := spec_l02Index.l0 k l0 a1 0
theorem spec_l02Index.calls (k : Nat) (A0 : Option Addr) (c0 : Nat) (l0 : List Int) (a1 : Int) (r : Int) (w : World) (hr0 : Kd.C (Kd.int .i64) w A0 l0.length l0) (hc0 : l0.length ≤ c0) (h : spec_l02Index.f k l0 a1 = some r) :
  Calls Try.prog 124 #[.slice A0 l0.length c0, .int .i64 a1] w fun e w' => e = .returned (.int .i64 r) ∧ Drawn0 w w' := by
 have HR0 := Am hr0
 have HC0 := Am hc0
 clear hr0 hc0
 have H : (spec_l02Index.l0 k l0 a1 0) = some r := h
 clear h
 have H' := Am H
 clear H
 go_enter Try.func124, Try.ntmps124
 go_wp2
 go_loopg [5] k (fun kq v5 w' => ∃ (x5_1 : Int), v5 = .int .i64 x5_1 ∧ Aside0 (spec_l02Index.l0 kq l0 a1 x5_1 = some r) ∧ Aside0 (kq ≤ k) ∧ Drawn0 w w')
 case atStart => exact ⟨(0), Xr, H', Xkr, by repeat (first | exact Drawn0.refl _ | apply Drawn0.step)⟩
 clear H'
 obtain ⟨x5_1, rfl, HA, HK1, ⟨m1, rfl⟩⟩ := hrel
 cases gk with | zero => cases HA.out | succ k1 => ?_
 have H := HA.out
 clear HA
 simp only [spec_l02Index.l0] at H
 obtain ⟨c3b0, H⟩ | ⟨c3b0, H⟩ := Xit H
 ·obtain ⟨c4b0, H⟩ := Xid H
  obtain ⟨c5, H⟩ | ⟨c5, H⟩ := Xiu H
  ·have c5b0 : ((rd l0 x5_1) == a1) = true := beq_iff_eq.mpr c5
   have c5b1 : ((rd l0 x5_1) != a1) = false := bne_eq_false_iff_eq.mpr c5
   clear c5
   obtain rfl := Xsi H
   have p10 : 0 ≤ (x5_1 : Int) := Xo
   have q10 : x5_1 < (l0.length : Int) := Xo
   obtain ⟨ad10, e10, hx10_0⟩ := Kd.at_int HR0.out x5_1 p10 q10
   cases e10
   replace p10 := eq_true p10
   replace q10 := eq_true q10
   go_wp2
   go_ret
   exact ⟨Xr, Xdr⟩
  have c5b0 : ((rd l0 x5_1) == a1) = false := beq_eq_false_iff_ne.mpr c5
  have c5b1 : ((rd l0 x5_1) != a1) = true := bne_iff_ne.mpr c5
  have H' := Am H
  clear H
  have p10 : 0 ≤ (x5_1 : Int) := Xo
  have q10 : x5_1 < (l0.length : Int) := Xo
  obtain ⟨ad10, e10, hx10_0⟩ := Kd.at_int HR0.out x5_1 p10 q10
  cases e10
  replace p10 := eq_true p10
  replace q10 := eq_true q10
  go_wp2
  go_roundg k1
  case measure => have := HK1.out; omega
  case rel => exact ⟨(wrap64 (x5_1 + 1)), Xr, H', Xk1, by repeat (first | exact Drawn0.refl _ | apply Drawn0.step)⟩
 obtain rfl := Xsi H
 go_wp2
 go_ret
 exact ⟨Xr, Xdr⟩
end Go.Proofs.Ytpdhccdmbdbdpaa.XA
