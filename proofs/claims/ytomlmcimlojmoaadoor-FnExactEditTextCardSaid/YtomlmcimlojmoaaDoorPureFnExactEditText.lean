/- The program's EditText answers what the reference's answers, for each edit: the pure statement of FnExactEditText. Conditions: none. -/
import Derived.Lib.ItoaLen
import Derived.Test.YtomlmcimlojmoaaDoorPk
import Derived.Test.YtomlmcimlojmoaaDoorYEditTextK
set_option linter.unusedVariables false
set_option linter.unusedSimpArgs false
namespace Go.Proofs.YtomlmcimlojmoaaDoor.Pure
set_option linter.unusedVariables false
set_option linter.unusedSimpArgs false
open Go.RowKit Go.Proofs.YtomlmcimlojmoaaDoor.XA Go.Proofs.YtomlmcimlojmoaaDoor.Pk Go.Proofs.YtomlmcimlojmoaaDoorW.PrintWords Go.Proofs.YtomlmcimlojmoaaDoorW.PrintLast Go.Proofs.YtomlmcimlojmoaaDoorW.PrintMore
theorem hexes (x : ByteArray) (hx : x.size ≤ 32768) : ∀ (m i : Nat) (out : List Int), i + m = x.size → out.length = 2 * i →
  ∃ r, (∀ k, m + 1 ≤ k → spec_l01Hex.l0 k x out (i : Int) = some r ∧ impl_hexOf.l0 k x out (x.size : Int) (i : Int) = some r) ∧ r.size = 2 * x.size := by
 intro m
 induction m with
 | zero =>
  intro i out hi ho
  refine ⟨strOfNums out, fun k hk => ?_, by rw [strOfNums_size]; omega⟩
  obtain ⟨k, rfl⟩ : ∃ j, k = j + 1 := ⟨k - 1, by omega⟩
  rw [spec_l01Hex.l0, impl_hexOf.l0, if_neg (by omega), if_neg (by omega)]
  exact ⟨rfl, rfl⟩
 | succ m ih =>
  intro i out hi ho
  obtain ⟨b0, b1⟩ := bt_range x (i : Int)
  have d0 : Int.tdiv (bt x (i : Int)) 16 = bt x (i : Int) / 16 := Int.tdiv_eq_ediv_of_nonneg b0
  have d1 : Int.tmod (bt x (i : Int)) 16 = bt x (i : Int) % 16 := Int.tmod_eq_emod_of_nonneg b0
  obtain ⟨r, hr, hz⟩ := ih (i + 1) (out ++ [bt (⟨#[48, 49, 50, 51, 52, 53, 54, 55, 56, 57, 97, 98, 99, 100, 101, 102]⟩ : ByteArray) ((Int.tdiv (bt x (i : Int)) 16) % 256), bt (⟨#[48, 49, 50, 51, 52, 53, 54, 55, 56, 57, 97, 98, 99, 100, 101, 102]⟩ : ByteArray) (Int.tmod (bt x (i : Int)) 16)]) (by omega) (by simp; omega)
  refine ⟨r, fun k hk => ?_, hz⟩
  obtain ⟨k, rfl⟩ : ∃ j, k = j + 1 := ⟨k - 1, by omega⟩
  obtain ⟨h1, h2⟩ := hr k (by omega)
  rw [spec_l01Hex.l0, impl_hexOf.l0, if_pos (by omega), if_pos (by omega), if_pos (by rw [d0]; omega), if_pos (by rw [d0]; omega), if_pos (by rw [d1]; omega), if_pos (by rw [d1]; omega)]
  rw [if_pos (by omega), if_pos (by omega), if_pos (by omega), if_pos (by rw [d0]; omega), if_pos (by rw [d0]; omega), if_pos (by rw [d1]; omega), if_pos (by rw [d1]; omega)]
  simp only [Option.bind_some]
  rw [if_pos (by simp; omega), if_pos (by simp; omega), wrap_id _ (by omega) (by omega)]
  exact ⟨h1, h2⟩
theorem hex_both (x : ByteArray) (hx : x.size ≤ 32768) : ∃ r, Ev (fun k => spec_l01Hex.f k x) r ∧ Ev (fun k => impl_hexOf.f k x) r ∧ r.size = 2 * x.size := by
 obtain ⟨r, hr, hz⟩ := hexes x hx x.size 0 [] (by omega) rfl
 have w : wrap64 (2 * (x.size : Int)) = 2 * (x.size : Int) := wrap_id _ (by omega) (by omega)
 refine ⟨r, ⟨x.size + 1, fun k hk => (hr k hk).1⟩, ⟨x.size + 1, fun k hk => ?_⟩, hz⟩
 show impl_hexOf.f k x = some r
 unfold impl_hexOf.f
 rw [w, if_pos (by omega), if_pos (by omega)]
 exact (hr k hk).2
def dB (n : Int) : ByteArray := ⟨(Lib.itoa n).toArray⟩
theorem dB_size {n : Int} (h0 : 0 ≤ n) (h1 : n ≤ 999999) : (dB n).size ≤ 21 := by
 have := Lib.itoa_length_le n (by omega) (by omega)
 show ((Lib.itoa n).toArray).size ≤ 21
 rw [List.size_toArray]
 exact this
theorem itoa_dB {n : Int} (h0 : 0 ≤ n) (h1 : n ≤ 999999) : strconv_Itoa.f n = some (dB n) := by
 unfold strconv_Itoa.f
 rw [if_pos (by omega)]
 rfl
theorem bytes_app (a b : List UInt8) : (⟨(a ++ b).toArray⟩ : ByteArray) = (⟨a.toArray⟩ : ByteArray) ++ (⟨b.toArray⟩ : ByteArray) := by
 have h : ∀ x y : ByteArray, x.data = y.data → x = y := fun x y h => by cases x; cases y; exact congrArg ByteArray.mk h
 apply h
 rw [_root_.ByteArray.data_append]
 simp
theorem digits : ∀ u : Nat, u ≤ 999999 → Ev (fun k => spec_l00Digits.f k (u : Int)) (dB (u : Int)) := by
 intro u
 induction u using Nat.strongRecOn with
 | ind u ih =>
  intro h
  by_cases c : u < 10
  ·refine Ev.step (fun k => by rw [spec_l00Digits.f]) ?_
   refine Ev.neg (by omega) (Ev.neg (by omega) (Ev.pos (by omega) ?_))
   have e : strOfNums [wrap64 (48 + (u : Int)) % 256] = dB (u : Int) := by
    rw [wrap_id _ (by omega) (by omega)]
    unfold dB strOfNums
    rw [Lib.itoa_nonneg, Lib.decDigits_one c, show ((48 + (u : Int)) % 256) = ((48 + u : Nat) : Int) by omega]
    rfl
   rw [e]
   exact Ev.now _
  ·have h1 : Int.tdiv (u : Int) 10 = ((u / 10 : Nat) : Int) := by rw [Int.tdiv_eq_ediv_of_nonneg (by omega)]; omega
   have h2 : Int.tmod (u : Int) 10 = ((u % 10 : Nat) : Int) := by rw [Int.tmod_eq_emod_of_nonneg (by omega)]; omega
   have i1 := ih (u / 10) (by omega) (by omega)
   refine Ev.step (fun k => by rw [spec_l00Digits.f]) ?_
   rw [h1, h2, wrap_id ((u / 10 : Nat) : Int) (by omega) (by omega), wrap_id (48 + ((u % 10 : Nat) : Int)) (by omega) (by omega)]
   have hz := dB_size (n := ((u / 10 : Nat) : Int)) (by omega) (by omega)
   refine Ev.neg (by omega) (Ev.neg (by omega) (Ev.neg (by omega) (Ev.bind i1 (Ev.bind (Ev.now _) (Ev.pos (by rw [strOfNums_size]; show (dB ((u / 10 : Nat) : Int)).size + 1 ≤ _; omega) ?_)))))
   have e : dB ((u / 10 : Nat) : Int) ++ strOfNums [(48 + ((u % 10 : Nat) : Int)) % 256] = dB (u : Int) := by
    unfold dB strOfNums
    rw [Lib.itoa_nonneg, Lib.itoa_nonneg, show Lib.decDigits u = Lib.decDigits (u / 10) ++ [UInt8.ofNat (48 + u % 10)] by rw [Lib.decDigits, dif_neg c], bytes_app, show ((48 + ((u % 10 : Nat) : Int)) % 256) = ((48 + u % 10 : Nat) : Int) by omega]
    rfl
   rw [e]
   exact Ev.now _
theorem digits' {n : Int} (h0 : 0 ≤ n) (h1 : n ≤ 999999) : Ev (fun k => spec_l00Digits.f k n) (dB n) := by
 obtain ⟨u, rfl⟩ : ∃ u : Nat, n = u := ⟨n.toNat, by omega⟩
 exact digits u (by omega)
theorem Ev.use {α β : Type} {a : Option α} {x : α} {f : Nat → α → Option β} {r : β} (h : a = some x) (k : Ev (fun n => f n x) r) : Ev (fun n => a.bind (f n)) r := by
 subst h
 exact k
end Go.Proofs.YtomlmcimlojmoaaDoor.Pure
namespace Go.Proofs.YtomlmcimlojmoaaDoor.Pure
set_option linter.unusedVariables false
set_option linter.unusedSimpArgs false
open Go.RowKit Go.Proofs.YtomlmcimlojmoaaDoor.XA Go.Proofs.YtomlmcimlojmoaaDoor.Pk Go.Proofs.YtomlmcimlojmoaaDoorW.PrintWords Go.Proofs.YtomlmcimlojmoaaDoorW.PrintLast Go.Proofs.YtomlmcimlojmoaaDoorW.PrintMore
theorem in_eq (x lo hi : Int) : spec_l01In.f x lo hi = some (decide (lo ≤ x ∧ x ≤ hi)) := by
 unfold spec_l01In.f
 by_cases h : x ≥ lo
 ·rw [if_pos h]; exact congrArg some (decide_eq_decide.2 ⟨fun g => ⟨h, g⟩, fun g => g.2⟩)
 ·rw [if_neg h]; exact congrArg some (decide_eq_false fun g => h g.1).symm
theorem within_eq (x lo hi : Int) : impl_within.f x lo hi = some (decide (lo ≤ x ∧ x ≤ hi)) := in_eq x lo hi
theorem ite_or (p q r : Prop) [Decidable p] [Decidable q] [Decidable r] : (if p then some (decide q) else some (decide r)) = some (decide ((p ∧ q) ∨ (¬ p ∧ r))) := by
 by_cases h : p <;> simp [h]
theorem dec_of {p : Prop} {i : Decidable p} (h : @decide p i = true) : p := of_decide_eq_true h
theorem some_false : some false = some (decide False) := rfl
theorem beq_dec (x y : Int) : (x == y) = decide (x = y) := by
 by_cases h : x = y <;> simp [h]
theorem size_nil (t : ByteArray) : (t.toList = []) ↔ t.size = 0 := by
 rw [Go.ByteArray.toList_eq]
 constructor
 ·intro h; have := congrArg List.length h; simpa using this
 ·intro h; exact List.length_eq_zero_iff.1 (by simpa using h)
theorem app_assoc (a b c : ByteArray) : a ++ b ++ c = a ++ (b ++ c) := by
 have h : ∀ x y : ByteArray, x.data = y.data → x = y := fun x y h => by cases x; cases y; exact congrArg ByteArray.mk h
 apply h
 simp only [_root_.ByteArray.data_append, Array.append_assoc]
theorem app_size (a b : ByteArray) : (a ++ b).size = a.size + b.size := _root_.ByteArray.size_append
theorem sp_size : (⟨#[32]⟩ : ByteArray).size = 1 := rfl
section
variable {a b c d : Int} {t : ByteArray}
theorem tail_end {M i : Int} (hM : spec_l06Many.f a = some M) (hi : ¬ i < M) (h3 : ¬ a = 3) (acc : ByteArray) (l : List Int) : Ev (fun k => spec_l06Text.l0 k acc l i a b c d t) acc := by
 refine Ev.step (fun k => by rw [spec_l06Text.l0]) (Ev.use hM ?_)
 exact Ev.neg hi (Ev.neg h3 (Ev.now _))
theorem tail_text {M i : Int} (hM : spec_l06Many.f a = some M) (hi : ¬ i < M) (h3 : a = 3) (acc q : ByteArray) (l : List Int) (hq : Ev (fun k => spec_l06Quote.f k t) q) (h1 : acc.size ≤ 1000) (h2 : q.size ≤ 3000) :
  Ev (fun k => spec_l06Text.l0 k acc l i a b c d t) (acc ++ ((⟨#[32]⟩ : ByteArray) ++ q)) := by
 have e := app_size (⟨#[32]⟩ : ByteArray) q
 rw [sp_size] at e
 refine Ev.step (fun k => by rw [spec_l06Text.l0]) (Ev.use hM ?_)
 exact Ev.neg hi (Ev.pos h3 (Ev.bind hq (Ev.pos (by omega) (Ev.pos (by omega) (Ev.now _)))))
theorem tail_one {M : Int} {i : Nat} (hM : spec_l06Many.f a = some M) (hi : (i : Int) < M) (acc v : ByteArray) (l : List Int) (hl : i < l.length) (hl2 : l.length ≤ 2) (h0 : 0 ≤ rd l i) (h1 : rd l i ≤ 999999) (ha : acc.size ≤ 1000)
  (hv : Ev (fun k => spec_l06Text.l0 k (acc ++ ((⟨#[32]⟩ : ByteArray) ++ dB (rd l i))) l ((i + 1 : Nat) : Int) a b c d t) v) : Ev (fun k => spec_l06Text.l0 k acc l (i : Int) a b c d t) v := by
 have e := app_size (⟨#[32]⟩ : ByteArray) (dB (rd l i))
 have hz := dB_size h0 h1
 rw [sp_size] at e
 refine Ev.step (fun k => by rw [spec_l06Text.l0]) (Ev.use hM ?_)
 rw [show wrap64 ((i : Int) + 1) = ((i + 1 : Nat) : Int) from wrap_id _ (by omega) (by omega)]
 exact Ev.pos hi (Ev.pos (by omega) (Ev.pos (by omega) (Ev.bind (digits' h0 h1) (Ev.pos (by omega) (Ev.pos (by omega) hv)))))
theorem quote_both (ht : t.size ≤ 1000) : ∃ q, Ev (fun k => spec_l06Quote.f k t) q ∧ q.size ≤ 2001 ∧ (t.toList = [] → q = ⟨#[45]⟩) ∧ (¬ t.toList = [] → Ev (fun k => impl_hexOf.f k t) q ∧ q.size = 2 * t.size) := by
 by_cases h : t.toList = ([] : List UInt8)
 ·exact ⟨⟨#[45]⟩, Ev.pos h (Ev.now _), by decide, fun _ => rfl, fun g => absurd h g⟩
 ·obtain ⟨r, h1, h2, h3⟩ := hex_both t (by omega)
  exact ⟨r, Ev.neg h (Ev.bind h1 (Ev.now _)), by omega, fun g => absurd g h, fun _ => ⟨h2, h3⟩⟩
theorem one_yes {x : ByteArray} {n : Int} (hx : x.size ≤ 1000) (h0 : 0 ≤ c) (h1 : c ≤ 999999) : Ev (fun k => impl_editText.j0 k x n true a b c d t) (x ++ (⟨#[32]⟩ : ByteArray) ++ dB c) := by
 have hz := dB_size h0 h1
 have e := app_size x (⟨#[32]⟩ : ByteArray)
 rw [sp_size] at e
 refine Ev.step (fun k => by rw [impl_editText.j0]) ?_
 refine Ev.pos rfl (Ev.pos (by omega) ?_)
 refine Ev.use (itoa_dB h0 h1) ?_
 exact Ev.pos (by omega) (Ev.now _)
theorem two_yes {x : ByteArray} (hx : x.size ≤ 1000) (h0 : 0 ≤ c) (h1 : c ≤ 999999) (h2 : 0 ≤ d) (h3 : d ≤ 999999) : Ev (fun k => impl_editText.j1 k x true a b c d t) (x ++ (⟨#[32]⟩ : ByteArray) ++ dB c ++ (⟨#[32]⟩ : ByteArray) ++ dB d) := by
 have hz := dB_size h0 h1
 have hz2 := dB_size h2 h3
 have e := app_size x (⟨#[32]⟩ : ByteArray)
 have e2 := app_size (x ++ (⟨#[32]⟩ : ByteArray)) (dB c)
 have e3 := app_size (x ++ (⟨#[32]⟩ : ByteArray) ++ dB c) (⟨#[32]⟩ : ByteArray)
 rw [sp_size] at e e3
 refine Ev.step (fun k => by rw [impl_editText.j1]) ?_
 refine Ev.pos rfl (Ev.pos (by omega) ?_)
 refine Ev.use (itoa_dB h0 h1) ?_
 refine Ev.pos (by omega) (Ev.pos (by omega) ?_)
 refine Ev.use (itoa_dB h2 h3) ?_
 exact Ev.pos (by omega) (Ev.now _)
theorem two_no {x : ByteArray} : Ev (fun k => impl_editText.j1 k x false a b c d t) x :=
 Ev.step (fun k => by rw [impl_editText.j1]) (Ev.neg (by decide) (Ev.now _))
theorem spec_text {w v : ByteArray} (hb0 : 0 ≤ b) (hb1 : b ≤ 999999) (j : Nat) (hj : (j : Int) = a - 1) (h9 : j < 9)
  (hw : rdOf ByteArray.empty (([(⟨#[105, 110, 115, 101, 114, 116]⟩ : ByteArray), (⟨#[100, 101, 108, 101, 116, 101]⟩ : ByteArray), (⟨#[116, 101, 120, 116]⟩ : ByteArray), (⟨#[97, 116, 116, 114]⟩ : ByteArray), (⟨#[109, 111, 118, 101]⟩ : ByteArray), (⟨#[119, 114, 97, 112]⟩ : ByteArray), (⟨#[108, 105, 102, 116]⟩ : ByteArray), (⟨#[115, 112, 108, 105, 116]⟩ : ByteArray), (⟨#[106, 111, 105, 110]⟩ : ByteArray)] : List ByteArray)) (j : Int) = w) (hws : w.size ≤ 6)
  (hv : Ev (fun k => spec_l06Text.l0 k (w ++ (⟨#[32]⟩ : ByteArray) ++ dB b) [c, d] 0 a b c d t) v) : Ev (fun k => spec_l06Text.f k a b c d t) v := by
 have hz := dB_size hb0 hb1
 have e := app_size w (⟨#[32]⟩ : ByteArray)
 rw [sp_size] at e
 unfold spec_l06Text.f
 refine Ev.use (x := _) rfl ?_
 rw [show wrap64 (a - 1) = (j : Int) by rw [← hj]; exact wrap_id _ (by omega) (by omega), hw]
 exact Ev.pos (by omega) (Ev.pos (by show (j : Int) < 9; omega) (Ev.pos (by omega) (Ev.bind (digits' hb0 hb1) (Ev.pos (by omega) hv))))
theorem impl_text {w v : ByteArray} {g : Nat → ByteArray → Option ByteArray} (hb0 : 0 ≤ b) (hb1 : b ≤ 999999) (h0 : 0 ≤ a) (h1 : a < 10)
  (hw : rdOf ByteArray.empty (([(⟨#[]⟩ : ByteArray), (⟨#[105, 110, 115, 101, 114, 116]⟩ : ByteArray), (⟨#[100, 101, 108, 101, 116, 101]⟩ : ByteArray), (⟨#[116, 101, 120, 116]⟩ : ByteArray), (⟨#[97, 116, 116, 114]⟩ : ByteArray), (⟨#[109, 111, 118, 101]⟩ : ByteArray), (⟨#[119, 114, 97, 112]⟩ : ByteArray), (⟨#[108, 105, 102, 116]⟩ : ByteArray), (⟨#[115, 112, 108, 105, 116]⟩ : ByteArray), (⟨#[106, 111, 105, 110]⟩ : ByteArray)] : List ByteArray)) a = w) (hws : w.size ≤ 6)
  (hv : Ev (fun k => if a = 3 then (if t.toList = ([] : List UInt8) then (if (w ++ (⟨#[32]⟩ : ByteArray) ++ dB b).size + 2 ≤ 9223372036854775807 then (some ((w ++ (⟨#[32]⟩ : ByteArray) ++ dB b) ++ (⟨#[32, 45]⟩ : ByteArray))) else (none)) else (if (w ++ (⟨#[32]⟩ : ByteArray) ++ dB b).size + 1 ≤ 9223372036854775807 then ((impl_hexOf.f k t).bind fun t196 => (if ((w ++ (⟨#[32]⟩ : ByteArray) ++ dB b) ++ (⟨#[32]⟩ : ByteArray)).size + t196.size ≤ 9223372036854775807 then (some (((w ++ (⟨#[32]⟩ : ByteArray) ++ dB b) ++ (⟨#[32]⟩ : ByteArray)) ++ t196)) else (none))) else (none))) else (if a = 4 then (impl_editText.j0 k (w ++ (⟨#[32]⟩ : ByteArray) ++ dB b) a (a == 4) a b c d t) else (if a = 6 then (impl_editText.j0 k (w ++ (⟨#[32]⟩ : ByteArray) ++ dB b) a (a == 6) a b c d t) else (impl_editText.j0 k (w ++ (⟨#[32]⟩ : ByteArray) ++ dB b) a (a == 8) a b c d t)))) v) : Ev (fun k => impl_editText.f k a b c d t) v := by
 have hz := dB_size hb0 hb1
 have e := app_size w (⟨#[32]⟩ : ByteArray)
 rw [sp_size] at e
 unfold impl_editText.f
 refine Ev.use (x := _) rfl ?_
 rw [hw]
 refine Ev.pos h0 (Ev.pos (by show a < 10; exact h1) (Ev.pos (by omega) ?_))
 refine Ev.use (itoa_dB hb0 hb1) ?_
 exact Ev.pos (by omega) hv
set_option maxHeartbeats 4000000 in
theorem edits : ∃ v, (∀ k, spec_EditOK.f (k + 3) a b c d t = some v) ∧ (∀ k, impl_EditOK.f (k + 3) a b c d t = some v) ∧ (v = true → (1 ≤ a ∧ a ≤ 9) ∧ (1 ≤ b ∧ b ≤ 999999) ∧ (0 ≤ c ∧ c ≤ 999999) ∧ (0 ≤ d ∧ d ≤ 999999) ∧ t.size ≤ 1000) := by
 have n : (t.toList = []) ↔ (t.size : Int) = 0 := by rw [size_nil]; omega
 have m : 0 ≤ (t.size : Int) := by omega
 have h9 : ∀ x : ByteArray, x.size ≤ 1000 ↔ (x.size : Int) ≤ 1000 := fun x => by omega
 rw [h9]
 simp only [spec_EditOK.f, spec_EditOK.j0, spec_EditOK.j1, spec_l02Kind.f, impl_EditOK.f, impl_EditOK.j0, in_eq, within_eq, Option.bind_some, n, decide_eq_true_eq, beq_dec, if_true]
 generalize (t.size : Int) = z at m
 clear n
 simp only [ite_or, some_false]
 refine ⟨_, fun _ => rfl, fun _ => congrArg some (decide_eq_decide.2 ?_), fun h => ?_⟩
 ·by_cases h1 : a = 1
  ·subst h1; simp only [Int.reduceEq, not_true, not_false_eq_true, false_and, true_and, and_false, and_true, or_false, false_or, true_or, or_true] <;> omega
  by_cases h2 : a = 2
  ·subst h2; simp only [Int.reduceEq, not_true, not_false_eq_true, false_and, true_and, and_false, and_true, or_false, false_or, true_or, or_true] <;> omega
  by_cases h3 : a = 3
  ·subst h3; simp only [Int.reduceEq, not_true, not_false_eq_true, false_and, true_and, and_false, and_true, or_false, false_or, true_or, or_true] <;> omega
  by_cases h4 : a = 4
  ·subst h4; simp only [Int.reduceEq, not_true, not_false_eq_true, false_and, true_and, and_false, and_true, or_false, false_or, true_or, or_true] <;> omega
  by_cases h5 : a = 5
  ·subst h5; simp only [Int.reduceEq, not_true, not_false_eq_true, false_and, true_and, and_false, and_true, or_false, false_or, true_or, or_true] <;> omega
  by_cases h6 : a = 6
  ·subst h6; simp only [Int.reduceEq, not_true, not_false_eq_true, false_and, true_and, and_false, and_true, or_false, false_or, true_or, or_true] <;> omega
  by_cases h7 : a = 7
  ·subst h7; simp only [Int.reduceEq, not_true, not_false_eq_true, false_and, true_and, and_false, and_true, or_false, false_or, true_or, or_true] <;> omega
  by_cases h8 : a = 8
  ·subst h8; simp only [Int.reduceEq, not_true, not_false_eq_true, false_and, true_and, and_false, and_true, or_false, false_or, true_or, or_true] <;> omega
  by_cases h9 : a = 9
  ·subst h9; simp only [Int.reduceEq, not_true, not_false_eq_true, false_and, true_and, and_false, and_true, or_false, false_or, true_or, or_true] <;> omega
  simp only [h1, h2, h3, h4, h5, h6, h7, h8, h9, not_true, not_false_eq_true, false_and, true_and, and_false, and_true, or_false, false_or, true_or, or_true]
 ·replace h := dec_of h
  by_cases h1 : a = 1
  ·subst h1; simp only [Int.reduceEq, not_true, not_false_eq_true, false_and, true_and, and_false, and_true, or_false, false_or, true_or, or_true] at h <;> omega
  by_cases h2 : a = 2
  ·subst h2; simp only [Int.reduceEq, not_true, not_false_eq_true, false_and, true_and, and_false, and_true, or_false, false_or, true_or, or_true] at h <;> omega
  by_cases h3 : a = 3
  ·subst h3; simp only [Int.reduceEq, not_true, not_false_eq_true, false_and, true_and, and_false, and_true, or_false, false_or, true_or, or_true] at h <;> omega
  by_cases h4 : a = 4
  ·subst h4; simp only [Int.reduceEq, not_true, not_false_eq_true, false_and, true_and, and_false, and_true, or_false, false_or, true_or, or_true] at h <;> omega
  by_cases h5 : a = 5
  ·subst h5; simp only [Int.reduceEq, not_true, not_false_eq_true, false_and, true_and, and_false, and_true, or_false, false_or, true_or, or_true] at h <;> omega
  by_cases h6 : a = 6
  ·subst h6; simp only [Int.reduceEq, not_true, not_false_eq_true, false_and, true_and, and_false, and_true, or_false, false_or, true_or, or_true] at h <;> omega
  by_cases h7 : a = 7
  ·subst h7; simp only [Int.reduceEq, not_true, not_false_eq_true, false_and, true_and, and_false, and_true, or_false, false_or, true_or, or_true] at h <;> omega
  by_cases h8 : a = 8
  ·subst h8; simp only [Int.reduceEq, not_true, not_false_eq_true, false_and, true_and, and_false, and_true, or_false, false_or, true_or, or_true] at h <;> omega
  by_cases h9 : a = 9
  ·subst h9; simp only [Int.reduceEq, not_true, not_false_eq_true, false_and, true_and, and_false, and_true, or_false, false_or, true_or, or_true] at h <;> omega
  simp only [h1, h2, h3, h4, h5, h6, h7, h8, h9, not_true, not_false_eq_true, false_and, true_and, and_false, and_true, or_false, false_or, true_or, or_true] at h
theorem many_at (j : Nat) (hj : (j : Int) = a - 1) (h9 : j < 9) : spec_l06Many.f a = some (rd [2, 0, 0, 1, 2, 1, 0, 1, 0] (j : Int)) := by
 unfold spec_l06Many.f
 rw [show wrap64 (a - 1) = (j : Int) by rw [← hj]; exact wrap_id _ (by omega) (by omega), Option.bind_some, if_pos (by omega), if_pos (by show (j : Int) < 9; omega)]
theorem j0_one {x v : ByteArray} {n : Int} (h : n = 1) (hv : Ev (fun k => impl_editText.j1 k x true a b c d t) v) : Ev (fun k => impl_editText.j0 k x n false a b c d t) v := by
 refine Ev.step (fun k => by rw [impl_editText.j0]) ?_
 refine Ev.neg (by decide) (Ev.pos h ?_)
 rw [show (n == 1) = true by rw [h]; rfl]
 exact hv
theorem j0_no {x v : ByteArray} {n : Int} (h : ¬ n = 1) {q : Bool} (hq : (n == 5) = q) (hv : Ev (fun k => impl_editText.j1 k x q a b c d t) v) : Ev (fun k => impl_editText.j0 k x n false a b c d t) v := by
 refine Ev.step (fun k => by rw [impl_editText.j0]) ?_
 refine Ev.neg (by decide) (Ev.neg h ?_)
 rw [hq]
 exact hv
theorem impl_rest {x v : ByteArray} {o : Option ByteArray} {g : Nat → Option ByteArray} (h3 : ¬ a = 3) (hv : Ev (fun k => impl_editText.j0 k x a (decide (a = 4 ∨ a = 6 ∨ a = 8)) a b c d t) v) :
  Ev (fun k => if a = 3 then g k else (if a = 4 then (impl_editText.j0 k x a (a == 4) a b c d t) else (if a = 6 then (impl_editText.j0 k x a (a == 6) a b c d t) else (impl_editText.j0 k x a (a == 8) a b c d t)))) v := by
 refine Ev.neg h3 ?_
 by_cases h4 : a = 4
 ·refine Ev.pos h4 ?_
  rw [show (a == 4) = decide (a = 4 ∨ a = 6 ∨ a = 8) by rw [beq_dec]; exact decide_eq_decide.2 (by omega)]
  exact hv
 ·refine Ev.neg h4 ?_
  by_cases h6 : a = 6
  ·refine Ev.pos h6 ?_
   rw [show (a == 6) = decide (a = 4 ∨ a = 6 ∨ a = 8) by rw [beq_dec]; exact decide_eq_decide.2 (by omega)]
   exact hv
  ·refine Ev.neg h6 ?_
   rw [show (a == 8) = decide (a = 4 ∨ a = 6 ∨ a = 8) by rw [beq_dec]; exact decide_eq_decide.2 (by omega)]
   exact hv
theorem text_both (h : (1 ≤ a ∧ a ≤ 9) ∧ (1 ≤ b ∧ b ≤ 999999) ∧ (0 ≤ c ∧ c ≤ 999999) ∧ (0 ≤ d ∧ d ≤ 999999) ∧ t.size ≤ 1000) : ∃ v, Ev (fun k => spec_l06Text.f k a b c d t) v ∧ Ev (fun k => impl_editText.f k a b c d t) v := by
 obtain ⟨⟨a0, a9⟩, ⟨b0, b1⟩, ⟨c0, c1⟩, ⟨d0, d1⟩, ht⟩ := h
 have hb0 : 0 ≤ b := by omega
 have hz := dB_size hb0 b1
 have hzc := dB_size c0 c1
 obtain ⟨j, hj⟩ : ∃ j : Nat, (j : Int) = a - 1 := ⟨(a - 1).toNat, by omega⟩
 have hM := many_at j hj (by omega)
 obtain ⟨w, hw1, hw2, hws⟩ : ∃ w : ByteArray, rdOf ByteArray.empty (([(⟨#[105, 110, 115, 101, 114, 116]⟩ : ByteArray), (⟨#[100, 101, 108, 101, 116, 101]⟩ : ByteArray), (⟨#[116, 101, 120, 116]⟩ : ByteArray), (⟨#[97, 116, 116, 114]⟩ : ByteArray), (⟨#[109, 111, 118, 101]⟩ : ByteArray), (⟨#[119, 114, 97, 112]⟩ : ByteArray), (⟨#[108, 105, 102, 116]⟩ : ByteArray), (⟨#[115, 112, 108, 105, 116]⟩ : ByteArray), (⟨#[106, 111, 105, 110]⟩ : ByteArray)] : List ByteArray)) (j : Int) = w ∧
   rdOf ByteArray.empty (([(⟨#[]⟩ : ByteArray), (⟨#[105, 110, 115, 101, 114, 116]⟩ : ByteArray), (⟨#[100, 101, 108, 101, 116, 101]⟩ : ByteArray), (⟨#[116, 101, 120, 116]⟩ : ByteArray), (⟨#[97, 116, 116, 114]⟩ : ByteArray), (⟨#[109, 111, 118, 101]⟩ : ByteArray), (⟨#[119, 114, 97, 112]⟩ : ByteArray), (⟨#[108, 105, 102, 116]⟩ : ByteArray), (⟨#[115, 112, 108, 105, 116]⟩ : ByteArray), (⟨#[106, 111, 105, 110]⟩ : ByteArray)] : List ByteArray)) a = w ∧ w.size ≤ 6 := by
  refine ⟨_, rfl, ?_, ?_⟩
  ·obtain rfl : a = ((j + 1 : Nat) : Int) := by omega
   rfl
  ·rcases (by omega : j = 0 ∨ j = 1 ∨ j = 2 ∨ j = 3 ∨ j = 4 ∨ j = 5 ∨ j = 6 ∨ j = 7 ∨ j = 8) with e | e | e | e | e | e | e | e | e <;> subst e <;> decide
 have hP : (w ++ (⟨#[32]⟩ : ByteArray) ++ dB b).size ≤ 28 := by
  rw [app_size, app_size, sp_size]
  omega
 have S := fun v hv => spec_text (a := a) (b := b) (c := c) (d := d) (t := t) (w := w) (v := v) hb0 b1 j hj (by omega) hw1 hws hv
 have I := fun v hv => impl_text (a := a) (b := b) (c := c) (d := d) (t := t) (w := w) (v := v) (g := fun _ _ => none) hb0 b1 (by omega) (by omega) hw2 hws hv
 generalize hx : w ++ (⟨#[32]⟩ : ByteArray) ++ dB b = x at S I hP
 by_cases h3 : a = 3
 ·obtain ⟨q, q1, q2, q3, q4⟩ := quote_both ht
  obtain rfl : j = 2 := by omega
  refine ⟨x ++ ((⟨#[32]⟩ : ByteArray) ++ q), S _ (tail_text hM (by decide) h3 x q [c, d] q1 (by omega) (by omega)), I _ (Ev.pos h3 ?_)⟩
  by_cases hn : t.toList = ([] : List UInt8)
  ·rw [q3 hn]
   exact Ev.pos hn (Ev.pos (by omega) (Ev.now _))
  ·have e := app_size x (⟨#[32]⟩ : ByteArray)
   rw [sp_size] at e
   rw [← app_assoc]
   exact Ev.neg hn (Ev.pos (by omega) (Ev.bind (q4 hn).1 (Ev.pos (by omega) (Ev.now _))))
 ·have S1 : spec_l06Many.f a = some 1 → Ev (fun k => spec_l06Text.l0 k x [c, d] 0 a b c d t) (x ++ (⟨#[32]⟩ : ByteArray) ++ dB c) := fun hM => by
   refine tail_one (i := 0) hM (by omega) _ _ [c, d] (by simp) (by simp) c0 c1 (by omega) ?_
   rw [app_assoc x]
   exact tail_end hM (by omega) h3 _ _
  have S2 : spec_l06Many.f a = some 2 → Ev (fun k => spec_l06Text.l0 k x [c, d] 0 a b c d t) (x ++ (⟨#[32]⟩ : ByteArray) ++ dB c ++ (⟨#[32]⟩ : ByteArray) ++ dB d) := fun hM => by
   refine tail_one (i := 0) hM (by omega) _ _ [c, d] (by simp) (by simp) c0 c1 (by omega) ?_
   refine tail_one (i := 1) hM (by omega) _ _ [c, d] (by simp) (by simp) d0 d1 (by
    show (x ++ ((⟨#[32]⟩ : ByteArray) ++ dB c)).size ≤ 1000
    rw [app_size, app_size, sp_size]
    omega) ?_
   rw [app_assoc _ (⟨#[32]⟩ : ByteArray) (dB d), app_assoc x (⟨#[32]⟩ : ByteArray) (dB c)]
   exact tail_end hM (by omega) h3 _ _
  have S0 : spec_l06Many.f a = some 0 → Ev (fun k => spec_l06Text.l0 k x [c, d] 0 a b c d t) x := fun hM => tail_end hM (by omega) h3 _ _
  by_cases hone : a = 4 ∨ a = 6 ∨ a = 8
  ·refine ⟨_, S _ (S1 ?_), I _ (impl_rest (o := none) h3 ?_)⟩
   ·rw [hM]
    rcases (by omega : j = 3 ∨ j = 5 ∨ j = 7) with e | e | e <;> subst e <;> rfl
   ·rw [decide_eq_true hone]
    exact one_yes (by omega) c0 c1
  ·by_cases htwo : a = 1 ∨ a = 5
   ·refine ⟨_, S _ (S2 ?_), I _ (impl_rest (o := none) h3 ?_)⟩
    ·rw [hM]
     rcases (by omega : j = 0 ∨ j = 4) with e | e <;> subst e <;> rfl
    ·rw [decide_eq_false hone]
     rcases htwo with e | e
     ·exact j0_one e (two_yes (by omega) c0 c1 d0 d1)
     ·exact j0_no (by omega) (show (a == 5) = true by rw [e]; rfl) (two_yes (by omega) c0 c1 d0 d1)
   ·refine ⟨_, S _ (S0 ?_), I _ (impl_rest (o := none) h3 ?_)⟩
    ·rw [hM]
     rcases (by omega : j = 1 ∨ j = 6 ∨ j = 8) with e | e | e <;> subst e <;> rfl
    ·rw [decide_eq_false hone]
     exact j0_no (by omega) (show (a == 5) = false by rw [beq_dec]; exact decide_eq_false (by omega)) two_no
theorem edit_texts : ∃ (r0 : ByteArray) (r1 : Int), Ev (fun k => spec_EditText.f k a b c d t) (r0, r1) ∧ Ev (fun k => impl_EditText.f k a b c d t) (r0, r1) := by
 obtain ⟨v, h1, h2, h3⟩ : ∃ v, Ev (fun k => spec_EditOK.f k a b c d t) v ∧ Ev (fun k => impl_EditOK.f k a b c d t) v ∧ (v = true → (1 ≤ a ∧ a ≤ 9) ∧ (1 ≤ b ∧ b ≤ 999999) ∧ (0 ≤ c ∧ c ≤ 999999) ∧ (0 ≤ d ∧ d ≤ 999999) ∧ t.size ≤ 1000) := by
  obtain ⟨v, g1, g2, h3⟩ := edits (a := a) (b := b) (c := c) (d := d) (t := t)
  refine ⟨v, ⟨3, fun k hk => ?_⟩, ⟨3, fun k hk => ?_⟩, h3⟩
  all_goals obtain ⟨m, rfl⟩ : ∃ m, k = m + 3 := ⟨k - 3, by omega⟩
  ·exact g1 m
  ·exact g2 m
 cases v with
 | false => exact ⟨_, _, Ev.bind h1 (Ev.neg (by decide) (Ev.now _)), Ev.bind h2 (Ev.neg (by decide) (Ev.now _))⟩
 | true =>
  obtain ⟨r, r1, r2⟩ := text_both (h3 rfl)
  exact ⟨_, _, Ev.bind h1 (Ev.pos rfl (Ev.bind r1 (Ev.now _))), Ev.bind h2 (Ev.pos rfl (Ev.bind r2 (Ev.now _)))⟩
end
theorem FnExactEditText : laws_FnExactEditText.Pure := core_FnExactEditText (fun x0 _ _ => edit_texts)
end Go.Proofs.YtomlmcimlojmoaaDoor.Pure
