/- The given statement of FnExactEditText: the given row of this law, out of its pure statement and the printed walk. Conditions: none. -/
import Derived.Test.YtomlmcimlojmoaaDoorRows
import Derived.Test.YtomlmcimlojmoaaDoorYEditText7
import Derived.Test.YtomlmcimlojmoaaDoorYEditTextO
import Derived.Test.YtomlmcimlojmoaaDoorPureFnExactEditText
import Derived.WalkKit
import Derived.ProofKit
import Derived.OpenShut
import Derived.ShutString
import Derived.ChangeOld
import Derived.Below
import Derived.SizedLaws
import Derived.Carry
import Derived.LaidLaws
import Derived.LaidHandle
import Derived.MakeChecks
import Derived.Lib.LaidTab
import Derived.Lib.LaidIn
import Derived.Stop.LaidErr
import Derived.SevenTiedAt
import Derived.Test.YtomlmcimlojmoaaDoorCards
import Derived.Test.YtomlmcimlojmoaaDoorTie
namespace Go.Proofs.YtomlmcimlojmoaaDoor.fnExactEditText
open Go.ChangeShapes Go.WideShapes Go.ChangeAt Go.RowKit
open Go.ChangeMaps (open_string shut_string)
open Go.Proofs.YtomlmcimlojmoaaDoorW.PrintWords Go.Proofs.YtomlmcimlojmoaaDoorW.PrintLast Go.Proofs.YtomlmcimlojmoaaDoorW.PrintMore Go.Proofs.YtomlmcimlojmoaaDoor.XA Go.Proofs.YtomlmcimlojmoaaDoor.Opening
set_option linter.unusedVariables false
theorem own : ownKnob Tryd.prog.godebug = none := by kernel_rfl
theorem laidOut : laidOutB Tryd.prog = true := by kernel_rfl
set_option maxRecDepth 100000
/-- The cells that a listed table lays. -/
def tabCells : DataW Unit → Array Value
  | .agg l => (l.map fun | .lit (.int k z) => Value.int k z | _ => .int .i64 0).toArray
  | _ => #[]
/-- A world that meets the condition: the settled one, the listed variables laid. -/
noncomputable def laidWorld (os : Os) : World :=
  let w0 := World.holding Tryd.prog os ⟨#[], #[], []⟩
  { w0 with heap := Rows.fnExactEditTextRow.laid.foldl (fun h x => match Tryd.prog.globalNamed x.1 with
      | some g => h.modify g fun
        | .cells _ t frozen => .cells (tabCells x.2) t frozen
        | o => o
      | none => h) w0.heap }
theorem plain : (Rows.fnExactEditTextRow.laid.all fun x => x.2.handleName?.isNone) = true := by kernel_rfl
theorem laidWorld_met (os : Os) (args : Array Value) : laidMetH Tryd.prog Rows.fnExactEditTextRow.laid ((laidWorld os).forCall (fun _ _ => 0) ⟨#[], args, []⟩).memory := by
  rw [Go.MakeChecks.laidMetH_plain _ _ _ plain]
  exact (LaidIn.of_run (Rows.fnExactEditTextRow.laid.filterMap fun x => Tryd.prog.globalNamed x.1) 8 (by kernel_rfl) (by kernel_rfl) (by kernel_rfl) (by kernel_rfl)).met
noncomputable def gT : Nat := (Tryd.prog.globalNamed "internal/strconv.uint64pow10").getD 0
noncomputable def tT : TypeId := ((Tryd.prog.globals[gT]?).map (·.type)).getD 0
noncomputable def eT : TypeId := match Tryd.prog.underlying tT with
  | some (.array _ e) => e
  | _ => 0
theorem tab_of {W : World} (h : laidMetH Tryd.prog Rows.fnExactEditTextRow.laid W) : Tab W := by
  rw [Go.MakeChecks.laidMetH_plain _ _ _ plain] at h
  have h2 : laidMet Tryd.prog [("internal/strconv.uint64pow10", Lib.tabData .u64 Lib.pow10Tab)] W := laidMet.tail (laidMet.tail (h))
  exact Lib.tabIs_of_head (g := gT) (t := tT) (e := eT) (n := 20) (by kernel_rfl) (by kernel_rfl) (by kernel_rfl) (by kernel_rfl) (by kernel_rfl) (by kernel_rfl) h2
set_option maxRecDepth 100000 in
theorem lifted (os : Os) (started : os.Started) (H : Type) (enc : TypeId × Value → H) :
    ReturnsInHanded {} Tryd.checked os 3 .any (fun w args => (Rows.fnExactEditTextSpec.pre enc Tryd.prog Tryd.f3 Rows.fnExactEditTextRow.domain false w args ∧ laidMetH Tryd.prog Rows.fnExactEditTextRow.laid w) ∧ sizedMet enc Tryd.prog Tryd.f3 (OpenSpec.ofChange Rows.fnExactEditTextSpec) false w args) (Rows.fnExactEditTextSpec.post enc Tryd.prog Tryd.f3 false true false false) := by
  refine returnsInHanded_of_change_and (C := Tryd.checked) (X := fun w _ => laidMetH Tryd.prog Rows.fnExactEditTextRow.laid w) (fun _ _ _ hh h => h.of_heap hh) own started (by kernel_rfl) Tryd.func3
    (ChangeSpec.witness_at (enc := enc) (C := Tryd.checked) (os := os) (X := fun w _ => laidMetH Tryd.prog Rows.fnExactEditTextRow.laid w) false (laidWorld os) #[.agg #[.int .i64 0, .int .i64 0, .int .i64 0, .int .i64 0, .string ByteArray.empty]] 8 rfl (by kernel_rfl) (by kernel_rfl) (by kernel_rfl) (by kernel_rfl) (by kernel_rfl) (laidWorld_met os _)) ?_
  intro W base args ds gs before hval0 hW hcnd hsz0 hL _
  have htab := tab_of hL
  have hval : ∀ (j : Nat) t v, Tryd.f3.params[j]? = some t → args[j]? = some v → Value.okWide Tryd.prog W .any base t v := hval0
  have hW' := hW
  obtain ⟨p, q, hA0, hV, rfl, hfz, hnd⟩ := hW
  have hA : DataW.TrodAll enc Tryd.prog W 0 (fun _ => true) true Tryd.f3.params.toList args.toList ds p := hA0
  rw [Tryd.params3] at hA hval
  obtain ⟨v0, vs0, d0, ds0, p0, q0, hargs, rfl, rfl, h0, r0⟩ := trodAll_cons hA
  obtain ⟨rfl, rfl, rfl⟩ := trodAll_nil r0
  obtain rfl : args = #[v0] := by cases args; simp_all
  obtain ⟨rfl, rfl⟩ := trodVars_none hV
  have t0 := h0
  have lt0 : ∀ x ∈ p0, x.block < W.heap.size := by obtain ⟨m, hm⟩ := t0; exact DataW.trod_lt m _ _ _ hm
  obtain ⟨fu0, hd0⟩ := h0
  obtain ⟨x0, kx0, ok0_⟩ := opens23 enc W fu0 _ _ _ hd0
  obtain ⟨cz0, rfl⟩ := agg_val Tryd.underlying23 (hval 0 23 v0 rfl rfl)
  have e0 := k23_open kx0
  obtain rfl : cz0 = #[.int .i64 x0.f0, .int .i64 x0.f1, .int .i64 x0.f2, .int .i64 x0.f3, .string x0.f4] := by cases cz0; exact congrArg Array.mk e0
  obtain ⟨k, hk⟩ := Pure.FnExactEditText x0 ok0_
  refine (laws_FnExactEditText.calls (k := k) (r := true) (hr_ := rfl) (w := W) (a0_0 := x0.f0) (a0_1 := x0.f1) (a0_2 := x0.f2) (a0_3 := x0.f3) (a0_4 := x0.f4)  (h := hk) (htab := htab)).mono fun e W' ⟨he, bel⟩ => ?_
  subst he
  exact ⟨_, rfl, _, _, _, [], _, [], hW', trodAll_mk1 (shut_bool Tryd.underlying4 _), (trodAll_cons_mk (Below.trod laidOut (by kernel_rfl) (of_decide_eq_true (by kernel_rfl)) t0 bel lt0) trodAll_mk0), rfl, bel.frame _, fun h => by cases h⟩
theorem over : Rows.fnExactEditTextRow.holds Tryd.pinned (OpenSpec.ofChange Rows.fnExactEditTextSpec) :=
  OpenClaim.holds_of_wide 3 Tryd.f3 rfl rfl rfl rfl rfl rfl rfl ⟨rfl, rfl, rfl, rfl, rfl⟩ rfl rfl rfl rfl rfl (by kernel_rfl) Tryd.func3 (by kernel_rfl)
    (of_decide_eq_true (by kernel_rfl)) (by unfold Func.isWrapper; first | (rw [if_pos (by decide +kernel)]; kernel_rfl) | (rw [if_neg (by decide +kernel)]; exact ⟨rfl, rfl⟩))
    (fun os started H enc _ => lifted os started H enc)
/-- The tied card of the law: her row, the listed variables tied to the program's text. -/
theorem card : Rows.FnExactEditTextCardSaid :=
  Claim7.holds_tied_plain_at .later [] [.data, .data, .data] true (true, "44538f5081219272b5903920184e12a5ed8eb55b8936d25527ab18d06ff9f343") true
    over (fun _ h => by cases h) (by kernel_rfl) (fun _ h => by cases h) fnExactEditText_row_tie rfl ⟨rfl, rfl⟩ (by kernel_rfl) rfl
    (fun f fn hf hfn => by
      obtain rfl : f = 3 := Option.some.inj ((show Tryd.prog.funcNamed "loop.example/g00701/laws.FnExactEditText" = some 3 by kernel_rfl).symm.trans hf) |>.symm
      obtain rfl : fn = Tryd.f3 := (Option.some.inj (Tryd.func3.symm.trans hfn)).symm
      have hall : (Tryd.f3.params.toList.all fun t => !Tryd.prog.wantsStandIn t) = true := by kernel_rfl
      exact ⟨by kernel_rfl, fun j t ht => by
        have := List.all_eq_true.1 hall t (Array.mem_toList_iff.2 (Array.mem_of_getElem? ht))
        exact (show Tryd.prog.wantsStandIn t = false by simpa using this)⟩)
    (by kernel_rfl)
#print axioms card
end Go.Proofs.YtomlmcimlojmoaaDoor.fnExactEditText
namespace Go.Proofs.YtomlmcimlojmoaaDoor
/-- The row, under a short name, for the claim. -/
theorem fnExactEditText_holds : Rows.FnExactEditTextCardSaid := fnExactEditText.card
end Go.Proofs.YtomlmcimlojmoaaDoor
