/- Contracts of the program's functions: each Go function that is named below comes to what its Lean function says. Written by xprint.py (a program of this session's, over the kit's print). Conditions: each contract's own premises. -/
import Derived.Test.YtpilinnhikpcfaaProg
import Derived.Test.YtpilinnhikpcfaaXW
import Derived.Below
import Derived.Deep.Draws
import Derived.Deep.AppendLies
import Derived.Maps.AppendAt
import Derived.OwnWalk
import Derived.Laws.BytesArg
import Derived.Laws.MakeOwn
import Derived.Laws.OwnMore
import Derived.Deep.OwnRows
import Derived.Tactics
import Derived.Lib.ConvBytes
import Derived.Laws.Slices
import Derived.WalkKit
import Derived.KernelRfl
import Derived.RowKit3
import Derived.Deep.LoopGhost
import Derived.Deep.QuietTactic
import Derived.BigQuiet
import Derived.WideLaws
import Derived.Deep.DeepCutAuto
import Derived.Deep.CutBlock
import Derived.Deep.RegionHeld3
import Derived.Laws.Rows
import Derived.Lib.AppendStr
import Derived.ArgAppend
import Derived.Laws.IdiomCopy
import Derived.OrdersHeld
import Derived.Laws.BitsLemmas
import Derived.RowKit
import Derived.Test.YtpilinnhikpcfaaWWords
import Derived.Test.YtpilinnhikpcfaaWLast
import Derived.Test.YtpilinnhikpcfaaWTab
import Derived.Test.YtpilinnhikpcfaaWFour
import Derived.Test.YtpilinnhikpcfaaWQPut
import Derived.Test.YtpilinnhikpcfaaWApart
import Derived.Test.YtpilinnhikpcfaaWArr
import Derived.Test.YtpilinnhikpcfaaWZeros
import Derived.Test.YtpilinnhikpcfaaWFoot
import Derived.Test.YtpilinnhikpcfaaWKept
import Derived.Test.YtpilinnhikpcfaaWShare
import Derived.Test.YtpilinnhikpcfaaWN
import Derived.Test.YtpilinnhikpcfaaWFootNe
import Derived.Test.YtpilinnhikpcfaaWAt
import Derived.Test.YtpilinnhikpcfaaWEqStruct
import Derived.Test.YtpilinnhikpcfaaWRepsOne
import Derived.Test.YtpilinnhikpcfaaWInv
import Derived.Test.YtpilinnhikpcfaaWInvWords
import Derived.Test.YtpilinnhikpcfaaWGuard
import Derived.Test.YtpilinnhikpcfaaWNEv
import Derived.Test.YtpilinnhikpcfaaWMore
namespace Go.Proofs.Ytpilinnhikpcfaa.XA
open Go.RowKit Go.Proofs.YtpilinnhikpcfaaW.PrintWords Go.Proofs.YtpilinnhikpcfaaW.PrintLast Go.Proofs.YtpilinnhikpcfaaW.PrintMore
attribute [local go_sem] max2_int min2_int max_two min_two max_three min_three max_four min_four   -- for this text's walks alone
set_option linter.unusedVariables false
set_option linter.unusedSimpArgs false



def errW : Option Int → Value
  | none => .nilIface
  | some c => .iface 0 (.int .i64 c)
theorem errW_none : errW none = .nilIface := rfl
theorem errW_some (c : Int) : errW (some c) = .iface 0 (.int .i64 c) := rfl

theorem info3 : (Try.prog.info? 3).map (fun i => (i.zero, i.size, i.bytes)) = some (some (.int .i64 0), 1, 8) := by kernel_rfl
theorem info80 : (Try.prog.info? 80).map (fun i => (i.zero, i.size, i.bytes)) = some (some (.agg #[(.string ⟨#[]⟩), (.bool false), (.slice none 0 0)]), 3, 48) := by kernel_rfl
theorem info95 : (Try.prog.info? 95).map (fun i => (i.zero, i.size, i.bytes)) = some (some (.agg #[(.slice none 0 0), (.int .i64 0)]), 2, 32) := by kernel_rfl
-- the values' own types
def rd_L1 (xs : List (List Int)) (i : Int) : (List Int) := xs.getD i.toNat ([] : List Int)
theorem at_L1 {w : World} {A : Option Addr} {n : Nat} {xs : List (List Int)} (h : Kd.C (Kd.slice 3 (Kd.int .i64)) w A n xs) (i : Int) (h0 : 0 ≤ i) (h1 : i < n) : ∃ ad A0 c0, A = some ad ∧ w.cell? (ad.add i.toNat) = some (.slice A0 (rd_L1 xs i).length c0) ∧ (rd_L1 xs i).length ≤ c0 ∧ (Kd.int .i64).C w A0 (rd_L1 xs i).length (rd_L1 xs i) := by
  obtain ⟨ad, c, e, _, hK, hc0⟩ := Kd.C_get h ([] : List Int) i h0 h1
  have hc : ∀ j u, c[j]? = some u → w.cell? (ad.add (i.toNat * 1 + j)) = some u := hc0
  obtain ⟨A0, c0, rfl, l0, g0⟩ := hK
  exact ⟨ad, A0, c0, e, by have hq := hc 0 _ rfl; rwa [Nat.mul_one, Nat.add_zero] at hq, l0, g0⟩

/-! #### struct type 158 -/
structure S158 where
  f0 : (List Int)
  f1 : Int
def z158 : S158 := ⟨([] : List Int), (0 : Int)⟩
def k158 : Kd S158 := Kd.iso (Kd.pair (Kd.slice 3 (Kd.int .i64)) (Kd.int .i64)) (fun x : S158 => (x.f0, x.f1))
theorem k158_open {w : World} {x : S158} {cs : List Value} (h : k158.K w x cs) : ∃ A0 c0, cs = [.slice A0 x.f0.length c0, .int .i64 x.f1] ∧ x.f0.length ≤ c0 ∧ (Kd.int .i64).C w A0 x.f0.length x.f0 := by
  obtain ⟨_, _, rfl, ⟨A0, c0, rfl, l0, g0⟩, rfl⟩ := h
  exact ⟨A0, c0, rfl, l0, g0⟩
theorem k158_openM {w : World} {base : Nat} {ok : Nat → Prop} {x : S158} {cs : List Value} (h : k158.M w base ok x cs) : ∃ v0, cs = [v0, .int .i64 x.f1] ∧ (Kd.int .i64).R 3 w base ok v0 x.f0 := by
  obtain ⟨_, _, rfl, ⟨v0, rfl, g0⟩, rfl⟩ := h
  exact ⟨v0, rfl, g0⟩
theorem k158_mk (w : World) (x : S158) {A0 : Option Addr} {c0 : Nat} (l0 : x.f0.length ≤ c0) (g0 : (Kd.int .i64).C w A0 x.f0.length x.f0) : k158.K w x [.slice A0 x.f0.length c0, .int .i64 x.f1] := ⟨[.slice A0 x.f0.length c0], [.int .i64 x.f1], rfl, ⟨A0, c0, rfl, l0, g0⟩, rfl⟩
theorem k158_mkM (w : World) (base : Nat) (ok : Nat → Prop) (x : S158) {v0 : Value} (g0 : (Kd.int .i64).R 3 w base ok v0 x.f0) : k158.M w base ok x [v0, .int .i64 x.f1] := ⟨[v0], [.int .i64 x.f1], rfl, ⟨v0, rfl, g0⟩, rfl⟩
def rd_T158 (xs : List S158) (i : Int) : S158 := xs.getD i.toNat z158
theorem at_T158 {w : World} {A : Option Addr} {n : Nat} {xs : List S158} (h : Kd.C k158 w A n xs) (i : Int) (h0 : 0 ≤ i) (h1 : i < n) : ∃ ad A0 c0, A = some ad ∧ w.cell? (ad.add (i.toNat * 2)) = some (.slice A0 (rd_T158 xs i).f0.length c0) ∧ w.cell? ⟨(ad.add (i.toNat * 2)).block, (ad.add (i.toNat * 2)).off + 1, none⟩ = some (.int .i64 (rd_T158 xs i).f1) ∧ (rd_T158 xs i).f0.length ≤ c0 ∧ (Kd.int .i64).C w A0 (rd_T158 xs i).f0.length (rd_T158 xs i).f0 := by
  obtain ⟨ad, c, e, _, hK, hc0⟩ := Kd.C_get h z158 i h0 h1
  have hc : ∀ j u, c[j]? = some u → w.cell? (ad.add (i.toNat * 2 + j)) = some u := hc0
  obtain ⟨A0, c0, rfl, l0, g0⟩ := k158_open hK
  exact ⟨ad, A0, c0, e, hc 0 _ rfl, by rw [← add_field _ _ 1 (by omega)]; exact hc 1 _ rfl, l0, g0⟩

def rd_L5 (xs : List (List S158)) (i : Int) : (List S158) := xs.getD i.toNat ([] : List S158)
theorem at_L5 {w : World} {A : Option Addr} {n : Nat} {xs : List (List S158)} (h : Kd.C (Kd.slice 158 k158) w A n xs) (i : Int) (h0 : 0 ≤ i) (h1 : i < n) : ∃ ad A0 c0, A = some ad ∧ w.cell? (ad.add i.toNat) = some (.slice A0 (rd_L5 xs i).length c0) ∧ (rd_L5 xs i).length ≤ c0 ∧ k158.C w A0 (rd_L5 xs i).length (rd_L5 xs i) := by
  obtain ⟨ad, c, e, _, hK, hc0⟩ := Kd.C_get h ([] : List S158) i h0 h1
  have hc : ∀ j u, c[j]? = some u → w.cell? (ad.add (i.toNat * 1 + j)) = some u := hc0
  obtain ⟨A0, c0, rfl, l0, g0⟩ := hK
  exact ⟨ad, A0, c0, e, by have hq := hc 0 _ rfl; rwa [Nat.mul_one, Nat.add_zero] at hq, l0, g0⟩

/-! #### struct type 75 -/
structure S75 where
  f0 : ByteArray
  f1 : Bool
  f2 : (List S158)
def z75 : S75 := ⟨(⟨#[]⟩ : ByteArray), false, ([] : List S158)⟩
def k75 : Kd S75 := Kd.iso (Kd.pair Kd.string (Kd.pair Kd.bool (Kd.slice 158 k158))) (fun x : S75 => (x.f0, x.f1, x.f2))
theorem k75_open {w : World} {x : S75} {cs : List Value} (h : k75.K w x cs) : ∃ A2 c2, cs = [.string x.f0, .bool x.f1, .slice A2 x.f2.length c2] ∧ x.f2.length ≤ c2 ∧ k158.C w A2 x.f2.length x.f2 := by
  obtain ⟨_, _, rfl, rfl, ⟨_, _, rfl, rfl, ⟨A2, c2, rfl, l2, g2⟩⟩⟩ := h
  exact ⟨A2, c2, rfl, l2, g2⟩
theorem k75_openM {w : World} {base : Nat} {ok : Nat → Prop} {x : S75} {cs : List Value} (h : k75.M w base ok x cs) : ∃ v2, cs = [.string x.f0, .bool x.f1, v2] ∧ k158.R 158 w base ok v2 x.f2 := by
  obtain ⟨_, _, rfl, rfl, ⟨_, _, rfl, rfl, ⟨v2, rfl, g2⟩⟩⟩ := h
  exact ⟨v2, rfl, g2⟩
theorem k75_mk (w : World) (x : S75) {A2 : Option Addr} {c2 : Nat} (l2 : x.f2.length ≤ c2) (g2 : k158.C w A2 x.f2.length x.f2) : k75.K w x [.string x.f0, .bool x.f1, .slice A2 x.f2.length c2] := ⟨[.string x.f0], [.bool x.f1, .slice A2 x.f2.length c2], rfl, rfl, ⟨[.bool x.f1], [.slice A2 x.f2.length c2], rfl, rfl, ⟨A2, c2, rfl, l2, g2⟩⟩⟩
theorem k75_mkM (w : World) (base : Nat) (ok : Nat → Prop) (x : S75) {v2 : Value} (g2 : k158.R 158 w base ok v2 x.f2) : k75.M w base ok x [.string x.f0, .bool x.f1, v2] := ⟨[.string x.f0], [.bool x.f1, v2], rfl, rfl, ⟨[.bool x.f1], [v2], rfl, rfl, ⟨v2, rfl, g2⟩⟩⟩
def rd_T75 (xs : List S75) (i : Int) : S75 := xs.getD i.toNat z75
theorem at_T75 {w : World} {A : Option Addr} {n : Nat} {xs : List S75} (h : Kd.C k75 w A n xs) (i : Int) (h0 : 0 ≤ i) (h1 : i < n) : ∃ ad A2 c2, A = some ad ∧ w.cell? (ad.add (i.toNat * 3)) = some (.string (rd_T75 xs i).f0) ∧ w.cell? ⟨(ad.add (i.toNat * 3)).block, (ad.add (i.toNat * 3)).off + 1, none⟩ = some (.bool (rd_T75 xs i).f1) ∧ w.cell? ⟨(ad.add (i.toNat * 3)).block, (ad.add (i.toNat * 3)).off + 2, none⟩ = some (.slice A2 (rd_T75 xs i).f2.length c2) ∧ (rd_T75 xs i).f2.length ≤ c2 ∧ k158.C w A2 (rd_T75 xs i).f2.length (rd_T75 xs i).f2 := by
  obtain ⟨ad, c, e, _, hK, hc0⟩ := Kd.C_get h z75 i h0 h1
  have hc : ∀ j u, c[j]? = some u → w.cell? (ad.add (i.toNat * 3 + j)) = some u := hc0
  obtain ⟨A2, c2, rfl, l2, g2⟩ := k75_open hK
  exact ⟨ad, A2, c2, e, hc 0 _ rfl, by rw [← add_field _ _ 1 (by omega)]; exact hc 1 _ rfl, by rw [← add_field _ _ 2 (by omega)]; exact hc 2 _ rfl, l2, g2⟩

/-! #### struct type 95 -/
structure S95 where
  f0 : (List Int)
  f1 : Int
def z95 : S95 := ⟨([] : List Int), (0 : Int)⟩
def k95 : Kd S95 := Kd.iso (Kd.pair (Kd.slice 3 (Kd.int .i64)) (Kd.int .i64)) (fun x : S95 => (x.f0, x.f1))
theorem k95_open {w : World} {x : S95} {cs : List Value} (h : k95.K w x cs) : ∃ A0 c0, cs = [.slice A0 x.f0.length c0, .int .i64 x.f1] ∧ x.f0.length ≤ c0 ∧ (Kd.int .i64).C w A0 x.f0.length x.f0 := by
  obtain ⟨_, _, rfl, ⟨A0, c0, rfl, l0, g0⟩, rfl⟩ := h
  exact ⟨A0, c0, rfl, l0, g0⟩
theorem k95_openM {w : World} {base : Nat} {ok : Nat → Prop} {x : S95} {cs : List Value} (h : k95.M w base ok x cs) : ∃ v0, cs = [v0, .int .i64 x.f1] ∧ (Kd.int .i64).R 3 w base ok v0 x.f0 := by
  obtain ⟨_, _, rfl, ⟨v0, rfl, g0⟩, rfl⟩ := h
  exact ⟨v0, rfl, g0⟩
theorem k95_mk (w : World) (x : S95) {A0 : Option Addr} {c0 : Nat} (l0 : x.f0.length ≤ c0) (g0 : (Kd.int .i64).C w A0 x.f0.length x.f0) : k95.K w x [.slice A0 x.f0.length c0, .int .i64 x.f1] := ⟨[.slice A0 x.f0.length c0], [.int .i64 x.f1], rfl, ⟨A0, c0, rfl, l0, g0⟩, rfl⟩
theorem k95_mkM (w : World) (base : Nat) (ok : Nat → Prop) (x : S95) {v0 : Value} (g0 : (Kd.int .i64).R 3 w base ok v0 x.f0) : k95.M w base ok x [v0, .int .i64 x.f1] := ⟨[v0], [.int .i64 x.f1], rfl, ⟨v0, rfl, g0⟩, rfl⟩
def rd_T95 (xs : List S95) (i : Int) : S95 := xs.getD i.toNat z95
theorem at_T95 {w : World} {A : Option Addr} {n : Nat} {xs : List S95} (h : Kd.C k95 w A n xs) (i : Int) (h0 : 0 ≤ i) (h1 : i < n) : ∃ ad A0 c0, A = some ad ∧ w.cell? (ad.add (i.toNat * 2)) = some (.slice A0 (rd_T95 xs i).f0.length c0) ∧ w.cell? ⟨(ad.add (i.toNat * 2)).block, (ad.add (i.toNat * 2)).off + 1, none⟩ = some (.int .i64 (rd_T95 xs i).f1) ∧ (rd_T95 xs i).f0.length ≤ c0 ∧ (Kd.int .i64).C w A0 (rd_T95 xs i).f0.length (rd_T95 xs i).f0 := by
  obtain ⟨ad, c, e, _, hK, hc0⟩ := Kd.C_get h z95 i h0 h1
  have hc : ∀ j u, c[j]? = some u → w.cell? (ad.add (i.toNat * 2 + j)) = some u := hc0
  obtain ⟨A0, c0, rfl, l0, g0⟩ := k95_open hK
  exact ⟨ad, A0, c0, e, hc 0 _ rfl, by rw [← add_field _ _ 1 (by omega)]; exact hc 1 _ rfl, l0, g0⟩

def rd_L8 (xs : List (List S95)) (i : Int) : (List S95) := xs.getD i.toNat ([] : List S95)
theorem at_L8 {w : World} {A : Option Addr} {n : Nat} {xs : List (List S95)} (h : Kd.C (Kd.slice 95 k95) w A n xs) (i : Int) (h0 : 0 ≤ i) (h1 : i < n) : ∃ ad A0 c0, A = some ad ∧ w.cell? (ad.add i.toNat) = some (.slice A0 (rd_L8 xs i).length c0) ∧ (rd_L8 xs i).length ≤ c0 ∧ k95.C w A0 (rd_L8 xs i).length (rd_L8 xs i) := by
  obtain ⟨ad, c, e, _, hK, hc0⟩ := Kd.C_get h ([] : List S95) i h0 h1
  have hc : ∀ j u, c[j]? = some u → w.cell? (ad.add (i.toNat * 1 + j)) = some u := hc0
  obtain ⟨A0, c0, rfl, l0, g0⟩ := hK
  exact ⟨ad, A0, c0, e, by have hq := hc 0 _ rfl; rwa [Nat.mul_one, Nat.add_zero] at hq, l0, g0⟩

/-! #### struct type 80 -/
structure S80 where
  f0 : ByteArray
  f1 : Bool
  f2 : (List S95)
def z80 : S80 := ⟨(⟨#[]⟩ : ByteArray), false, ([] : List S95)⟩
def k80 : Kd S80 := Kd.iso (Kd.pair Kd.string (Kd.pair Kd.bool (Kd.slice 95 k95))) (fun x : S80 => (x.f0, x.f1, x.f2))
theorem k80_open {w : World} {x : S80} {cs : List Value} (h : k80.K w x cs) : ∃ A2 c2, cs = [.string x.f0, .bool x.f1, .slice A2 x.f2.length c2] ∧ x.f2.length ≤ c2 ∧ k95.C w A2 x.f2.length x.f2 := by
  obtain ⟨_, _, rfl, rfl, ⟨_, _, rfl, rfl, ⟨A2, c2, rfl, l2, g2⟩⟩⟩ := h
  exact ⟨A2, c2, rfl, l2, g2⟩
theorem k80_openM {w : World} {base : Nat} {ok : Nat → Prop} {x : S80} {cs : List Value} (h : k80.M w base ok x cs) : ∃ v2, cs = [.string x.f0, .bool x.f1, v2] ∧ k95.R 95 w base ok v2 x.f2 := by
  obtain ⟨_, _, rfl, rfl, ⟨_, _, rfl, rfl, ⟨v2, rfl, g2⟩⟩⟩ := h
  exact ⟨v2, rfl, g2⟩
theorem k80_mk (w : World) (x : S80) {A2 : Option Addr} {c2 : Nat} (l2 : x.f2.length ≤ c2) (g2 : k95.C w A2 x.f2.length x.f2) : k80.K w x [.string x.f0, .bool x.f1, .slice A2 x.f2.length c2] := ⟨[.string x.f0], [.bool x.f1, .slice A2 x.f2.length c2], rfl, rfl, ⟨[.bool x.f1], [.slice A2 x.f2.length c2], rfl, rfl, ⟨A2, c2, rfl, l2, g2⟩⟩⟩
theorem k80_mkM (w : World) (base : Nat) (ok : Nat → Prop) (x : S80) {v2 : Value} (g2 : k95.R 95 w base ok v2 x.f2) : k80.M w base ok x [.string x.f0, .bool x.f1, v2] := ⟨[.string x.f0], [.bool x.f1, v2], rfl, rfl, ⟨[.bool x.f1], [v2], rfl, rfl, ⟨v2, rfl, g2⟩⟩⟩
def rd_T80 (xs : List S80) (i : Int) : S80 := xs.getD i.toNat z80
theorem at_T80 {w : World} {A : Option Addr} {n : Nat} {xs : List S80} (h : Kd.C k80 w A n xs) (i : Int) (h0 : 0 ≤ i) (h1 : i < n) : ∃ ad A2 c2, A = some ad ∧ w.cell? (ad.add (i.toNat * 3)) = some (.string (rd_T80 xs i).f0) ∧ w.cell? ⟨(ad.add (i.toNat * 3)).block, (ad.add (i.toNat * 3)).off + 1, none⟩ = some (.bool (rd_T80 xs i).f1) ∧ w.cell? ⟨(ad.add (i.toNat * 3)).block, (ad.add (i.toNat * 3)).off + 2, none⟩ = some (.slice A2 (rd_T80 xs i).f2.length c2) ∧ (rd_T80 xs i).f2.length ≤ c2 ∧ k95.C w A2 (rd_T80 xs i).f2.length (rd_T80 xs i).f2 := by
  obtain ⟨ad, c, e, _, hK, hc0⟩ := Kd.C_get h z80 i h0 h1
  have hc : ∀ j u, c[j]? = some u → w.cell? (ad.add (i.toNat * 3 + j)) = some u := hc0
  obtain ⟨A2, c2, rfl, l2, g2⟩ := k80_open hK
  exact ⟨ad, A2, c2, e, hc 0 _ rfl, by rw [← add_field _ _ 1 (by omega)]; exact hc 1 _ rfl, by rw [← add_field _ _ 2 (by omega)]; exact hc 2 _ rfl, l2, g2⟩

def rd_L10 (xs : List (List S75)) (i : Int) : (List S75) := xs.getD i.toNat ([] : List S75)
theorem at_L10 {w : World} {A : Option Addr} {n : Nat} {xs : List (List S75)} (h : Kd.C (Kd.slice 75 k75) w A n xs) (i : Int) (h0 : 0 ≤ i) (h1 : i < n) : ∃ ad A0 c0, A = some ad ∧ w.cell? (ad.add i.toNat) = some (.slice A0 (rd_L10 xs i).length c0) ∧ (rd_L10 xs i).length ≤ c0 ∧ k75.C w A0 (rd_L10 xs i).length (rd_L10 xs i) := by
  obtain ⟨ad, c, e, _, hK, hc0⟩ := Kd.C_get h ([] : List S75) i h0 h1
  have hc : ∀ j u, c[j]? = some u → w.cell? (ad.add (i.toNat * 1 + j)) = some u := hc0
  obtain ⟨A0, c0, rfl, l0, g0⟩ := hK
  exact ⟨ad, A0, c0, e, by have hq := hc 0 _ rfl; rwa [Nat.mul_one, Nat.add_zero] at hq, l0, g0⟩

def rd_L11 (xs : List (List S80)) (i : Int) : (List S80) := xs.getD i.toNat ([] : List S80)
theorem at_L11 {w : World} {A : Option Addr} {n : Nat} {xs : List (List S80)} (h : Kd.C (Kd.slice 80 k80) w A n xs) (i : Int) (h0 : 0 ≤ i) (h1 : i < n) : ∃ ad A0 c0, A = some ad ∧ w.cell? (ad.add i.toNat) = some (.slice A0 (rd_L11 xs i).length c0) ∧ (rd_L11 xs i).length ≤ c0 ∧ k80.C w A0 (rd_L11 xs i).length (rd_L11 xs i) := by
  obtain ⟨ad, c, e, _, hK, hc0⟩ := Kd.C_get h ([] : List S80) i h0 h1
  have hc : ∀ j u, c[j]? = some u → w.cell? (ad.add (i.toNat * 1 + j)) = some u := hc0
  obtain ⟨A0, c0, rfl, l0, g0⟩ := hK
  exact ⟨ad, A0, c0, e, by have hq := hc 0 _ rfl; rwa [Nat.mul_one, Nat.add_zero] at hq, l0, g0⟩

theorem footT75_2 {w : World} {S : Nat → Prop} {A : Option Addr} {n : Nat} {xs : List S75} (h : ∀ W_, Kept w W_ S → Kd.C k75 W_ A n xs) (i : Int) (h0 : 0 ≤ i) (h1 : i < n) :
    ∃ ad A2 c2, A = some ad ∧ (∀ W_, Kept w W_ S → W_.cell? ⟨(ad.add (i.toNat * 3)).block, (ad.add (i.toNat * 3)).off + 2, none⟩ = some (.slice A2 (rd_T75 xs i).f2.length c2)) ∧ (rd_T75 xs i).f2.length ≤ c2 ∧ ∀ W_, Kept w W_ S → Kd.C k158 W_ A2 (rd_T75 xs i).f2.length ((rd_T75 xs i).f2) := by
  obtain ⟨ad, A2, c2, e, hx0, hx1, hx2, l2, g2⟩ := at_T75 (h w (Kept.refl w S)) i h0 h1
  subst e
  have hb : ¬ S ad.block := XW.foot_block (by decide) h (by omega)
  have hc : ∀ W_, Kept w W_ S → W_.cell? ⟨(ad.add (i.toNat * 3)).block, (ad.add (i.toNat * 3)).off + 2, none⟩ = some (.slice A2 (rd_T75 xs i).f2.length c2) := fun W_ hW => XW.foot_cell hW (by first | (rw [add_block]; exact hb) | (show ¬ S (Addr.add _ _).block; rw [add_block]; exact hb)) hx2
  refine ⟨ad, A2, c2, rfl, hc, l2, fun W_ hW => ?_⟩
  obtain ⟨ad2, B2, d2, e2, hy0, hy1, hy2, m2, k2⟩ := at_T75 (h W_ hW) i h0 h1
  obtain rfl : ad = ad2 := by injection e2
  have hs := Option.some.inj (hy2.symm.trans (hc W_ hW))
  injection hs with ha _ _
  rw [← ha]
  exact k2
theorem footT80_2 {w : World} {S : Nat → Prop} {A : Option Addr} {n : Nat} {xs : List S80} (h : ∀ W_, Kept w W_ S → Kd.C k80 W_ A n xs) (i : Int) (h0 : 0 ≤ i) (h1 : i < n) :
    ∃ ad A2 c2, A = some ad ∧ (∀ W_, Kept w W_ S → W_.cell? ⟨(ad.add (i.toNat * 3)).block, (ad.add (i.toNat * 3)).off + 2, none⟩ = some (.slice A2 (rd_T80 xs i).f2.length c2)) ∧ (rd_T80 xs i).f2.length ≤ c2 ∧ ∀ W_, Kept w W_ S → Kd.C k95 W_ A2 (rd_T80 xs i).f2.length ((rd_T80 xs i).f2) := by
  obtain ⟨ad, A2, c2, e, hx0, hx1, hx2, l2, g2⟩ := at_T80 (h w (Kept.refl w S)) i h0 h1
  subst e
  have hb : ¬ S ad.block := XW.foot_block (by decide) h (by omega)
  have hc : ∀ W_, Kept w W_ S → W_.cell? ⟨(ad.add (i.toNat * 3)).block, (ad.add (i.toNat * 3)).off + 2, none⟩ = some (.slice A2 (rd_T80 xs i).f2.length c2) := fun W_ hW => XW.foot_cell hW (by first | (rw [add_block]; exact hb) | (show ¬ S (Addr.add _ _).block; rw [add_block]; exact hb)) hx2
  refine ⟨ad, A2, c2, rfl, hc, l2, fun W_ hW => ?_⟩
  obtain ⟨ad2, B2, d2, e2, hy0, hy1, hy2, m2, k2⟩ := at_T80 (h W_ hW) i h0 h1
  obtain rfl : ad = ad2 := by injection e2
  have hs := Option.some.inj (hy2.symm.trans (hc W_ hW))
  injection hs with ha _ _
  rw [← ha]
  exact k2
theorem footT95_0 {w : World} {S : Nat → Prop} {A : Option Addr} {n : Nat} {xs : List S95} (h : ∀ W_, Kept w W_ S → Kd.C k95 W_ A n xs) (i : Int) (h0 : 0 ≤ i) (h1 : i < n) :
    ∃ ad A0 c0, A = some ad ∧ (∀ W_, Kept w W_ S → W_.cell? (ad.add (i.toNat * 2)) = some (.slice A0 (rd_T95 xs i).f0.length c0)) ∧ (rd_T95 xs i).f0.length ≤ c0 ∧ ∀ W_, Kept w W_ S → Kd.C (Kd.int .i64) W_ A0 (rd_T95 xs i).f0.length ((rd_T95 xs i).f0) := by
  obtain ⟨ad, A0, c0, e, hx0, hx1, l0, g0⟩ := at_T95 (h w (Kept.refl w S)) i h0 h1
  subst e
  have hb : ¬ S ad.block := XW.foot_block (by decide) h (by omega)
  have hc : ∀ W_, Kept w W_ S → W_.cell? (ad.add (i.toNat * 2)) = some (.slice A0 (rd_T95 xs i).f0.length c0) := fun W_ hW => XW.foot_cell hW (by first | (rw [add_block]; exact hb) | (show ¬ S (Addr.add _ _).block; rw [add_block]; exact hb)) hx0
  refine ⟨ad, A0, c0, rfl, hc, l0, fun W_ hW => ?_⟩
  obtain ⟨ad2, B0, d0, e2, hy0, hy1, m0, k0⟩ := at_T95 (h W_ hW) i h0 h1
  obtain rfl : ad = ad2 := by injection e2
  have hs := Option.some.inj (hy0.symm.trans (hc W_ hW))
  injection hs with ha _ _
  rw [← ha]
  exact k0
theorem footT158_0 {w : World} {S : Nat → Prop} {A : Option Addr} {n : Nat} {xs : List S158} (h : ∀ W_, Kept w W_ S → Kd.C k158 W_ A n xs) (i : Int) (h0 : 0 ≤ i) (h1 : i < n) :
    ∃ ad A0 c0, A = some ad ∧ (∀ W_, Kept w W_ S → W_.cell? (ad.add (i.toNat * 2)) = some (.slice A0 (rd_T158 xs i).f0.length c0)) ∧ (rd_T158 xs i).f0.length ≤ c0 ∧ ∀ W_, Kept w W_ S → Kd.C (Kd.int .i64) W_ A0 (rd_T158 xs i).f0.length ((rd_T158 xs i).f0) := by
  obtain ⟨ad, A0, c0, e, hx0, hx1, l0, g0⟩ := at_T158 (h w (Kept.refl w S)) i h0 h1
  subst e
  have hb : ¬ S ad.block := XW.foot_block (by decide) h (by omega)
  have hc : ∀ W_, Kept w W_ S → W_.cell? (ad.add (i.toNat * 2)) = some (.slice A0 (rd_T158 xs i).f0.length c0) := fun W_ hW => XW.foot_cell hW (by first | (rw [add_block]; exact hb) | (show ¬ S (Addr.add _ _).block; rw [add_block]; exact hb)) hx0
  refine ⟨ad, A0, c0, rfl, hc, l0, fun W_ hW => ?_⟩
  obtain ⟨ad2, B0, d0, e2, hy0, hy1, m0, k0⟩ := at_T158 (h W_ hW) i h0 h1
  obtain rfl : ad = ad2 := by injection e2
  have hs := Option.some.inj (hy0.symm.trans (hc W_ hW))
  injection hs with ha _ _
  rw [← ha]
  exact k0
end Go.Proofs.Ytpilinnhikpcfaa.XA
