/- strings.Join in the words of the printed contracts, over the shelf's contract (which walks the library's own text). Conditions: the premises. -/
import Derived.Shelf.Strings.OnBuilder
import Derived.Ground.NamesProg
import Derived.Test.YthkbgbkglgmpoaaYSchemaLines0
import Derived.Test.YthkbgbkglgmpoaaProg
import Derived.KernelRfl
namespace Go.Proofs
open Go.Shelf
def Try.lJoin_ren : Go.Shelf.Ren := ⟨fun | 156 => 117 | 165 => 148 | 166 => 149 | 169 => 150 | 240 => 161 | 241 => 162 | 276 => 167 | 277 => 168 | n => n, fun | 31 => 48 | 9 => 9 | 3 => 3 | 4 => 4 | 0 => 0 | 20 => 20 | 72 => 168 | 76 => 172 | 70 => 166 | 37 => 140 | 75 => 171 | 127 => 182 | 164 => 185 | 5 => 5 | 80 => 174 | n => n, fun | n => n⟩
theorem Try.lJoin : Go.Proofs.Lays.n156 Try.prog Try.lJoin_ren := {
  mixed := by kernel_rfl
  f156 := Try.func117.trans (congrArg some (by kernel_rfl))
  f165 := Try.func148.trans (congrArg some (by kernel_rfl))
  f166 := Try.func149.trans (congrArg some (by kernel_rfl))
  f169 := Try.func150.trans (congrArg some (by kernel_rfl))
  f240 := Try.func161.trans (congrArg some (by kernel_rfl))
  f241 := Try.func162.trans (congrArg some (by kernel_rfl))
  f276 := Try.func167.trans (congrArg some (by kernel_rfl))
  f277 := Try.func168.trans (congrArg some (by kernel_rfl))
  t0 := Try.underlying0
  a0 := Try.isAgg0
  z0 := Try.sizeOf0
  v0 := Try.zeroValue0
  t3 := Try.underlying3
  a3 := Try.isAgg3
  z3 := Try.sizeOf3
  v3 := Try.zeroValue3
  t4 := Try.underlying4
  a4 := Try.isAgg4
  z4 := Try.sizeOf4
  v4 := Try.zeroValue4
  t9 := Try.underlying9
  a9 := Try.isAgg9
  z9 := Try.sizeOf9
  v9 := Try.zeroValue9
  t20 := Try.underlying20
  a20 := Try.isAgg20
  z20 := Try.sizeOf20
  v20 := Try.zeroValue20
  t31 := Try.underlying48
  a31 := Try.isAgg48
  z31 := Try.sizeOf48
  v31 := Try.zeroValue48
  t37 := Try.underlying140
  a37 := Try.isAgg140
  z37 := Try.sizeOf140
  v37 := Try.zeroValue140
  t70 := Try.underlying166
  a70 := Try.isAgg166
  z70 := Try.sizeOf166
  v70 := Try.zeroValue166
  t72 := Try.underlying168
  a72 := Try.isAgg168
  z72 := Try.sizeOf168
  v72 := Try.zeroValue168
  t75 := Try.underlying171
  a75 := Try.isAgg171
  z75 := Try.sizeOf171
  v75 := Try.zeroValue171
  t76 := Try.underlying172
  a76 := Try.isAgg172
  z76 := Try.sizeOf172
  v76 := Try.zeroValue172
  t127 := Try.underlying182
  a127 := Try.isAgg182
  z127 := Try.sizeOf182
  v127 := Try.zeroValue182
  t164 := Try.underlying185
  a164 := Try.isAgg185
  z164 := Try.sizeOf185
  v164 := Try.zeroValue185 }
theorem Try.extraJoin : Builder.Extra Try.prog Try.lJoin_ren := {
  sizeBuilder := by kernel_rfl
  liesBuilder := by kernel_rfl
  t5 := Try.underlying5
  a5 := Try.isAgg5
  z5 := Try.sizeOf5
  v5 := Try.zeroValue5
  infoByte := by kernel_rfl
  cellsByte := by kernel_rfl
  sizeByte := by kernel_rfl
  neB5 := by decide }
end Go.Proofs
namespace Go.Proofs.Ythkbgbkglgmpoaa.XA
set_option linter.unusedVariables false
open Go.Lib Go.RowKit Go.Proofs.YthkbgbkglgmpoaaW.PrintWords Go.Proofs.YthkbgbkglgmpoaaW.PrintLast Go.Proofs.YthkbgbkglgmpoaaW.PrintMore
def joinT (l : List ByteArray) (s : ByteArray) : ByteArray := ⟨(Lib.join (l.map (·.data.toList)) s.data.toList).toArray⟩
def strings_Join.f (l0 : List ByteArray) (a1 : ByteArray) : Option ByteArray := if l0.length ≤ 140737488355328 ∧ (Lib.join (l0.map (·.data.toList)) a1.data.toList).length ≤ 140737488355328 then some (joinT l0 a1) else none
theorem strings_Join.calls (A0 : Option Addr) (c0 : Nat) (l0 : List ByteArray) (a1 : ByteArray) (r : ByteArray) (w : World) (hr0 : Kd.C Kd.string w A0 l0.length l0) (hc0 : l0.length ≤ c0) (h : strings_Join.f l0 a1 = some r) :
    Calls Try.prog 117 #[.slice A0 l0.length c0, .string a1] w fun e w' => e = .returned (.string r) ∧ Below w.heap.size w w' := by
  have hf : (l0.length ≤ 140737488355328 ∧ (Lib.join (l0.map (·.data.toList)) a1.data.toList).length ≤ 140737488355328) ∧ joinT l0 a1 = r := by
    unfold strings_Join.f at h
    split at h
    · next hc => exact ⟨hc, Option.some.inj h⟩
    · cases h
  obtain ⟨⟨hn, hj⟩, rfl⟩ := hf
  clear h
  rcases Nat.eq_zero_or_pos l0.length with hz | hp
  · obtain rfl : l0 = [] := List.eq_nil_of_length_eq_zero hz
    refine (Any.strings_Join_none Try.lJoin Try.extraJoin A0 c0 a1 w).mono ?_
    rintro e w' ⟨rfl, rfl⟩
    exact ⟨rfl, Below.refl _ _⟩
  · obtain ⟨hl, _, h3⟩ := hr0
    obtain ⟨ad, rfl, hcell⟩ := h3 (by omega)
    have hk : ∀ (j : Nat) x, l0[j]? = some x → w.cell? (ad.add j) = some (.string x) := by
      intro j x hx
      obtain ⟨c, hcl, hK, hcc⟩ := hcell j x hx
      have hc1 : c = [.string x] := hK
      have := hcc 0 (.string x) (by rw [hc1]; rfl)
      have e : j * Kd.string.sz + 0 = j := by show j * 1 + 0 = j; omega
      rwa [e] at this
    have h0 := hk 0 _ (List.getElem?_eq_getElem hp)
    obtain ⟨b, o, s⟩ := ad
    have hs : s = none := by
      cases s with
      | none => rfl
      | some q =>
        have e : (⟨b, o, some q⟩ : Addr).add 0 = ⟨b, o, some q⟩ := rfl
        rw [e] at h0
        unfold World.cell? at h0
        split at h0
        · simp at h0
        · cases h0
    subst hs
    have hk' : ∀ (j : Nat) x, l0[j]? = some x → w.cell? ⟨b, o + j, none⟩ = some (.string x) := by
      intro j x hx
      have := hk j x hx
      have e : (⟨b, o, none⟩ : Addr).add j = ⟨b, o + j, none⟩ := Addr.add_lit ..
      rwa [e] at this
    exact Any.strings_Join Try.lJoin Try.extraJoin b o c0 l0 a1 w hk' (World.block_lt_of_cell? w _ (hk' 0 _ (List.getElem?_eq_getElem hp))) hn hc0 hj
end Go.Proofs.Ythkbgbkglgmpoaa.XA
