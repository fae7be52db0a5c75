/- The law FnExactValidPlan returns true for every input, and its argument reads afterwards as it read before; there is no condition. -/
import Derived.Test.YtaifdjmejglkgaaGreatRows
import Derived.Test.YtaifdjmejglkgaaGreatEvTwo
import Derived.Test.YtaifdjmejglkgaaGreatOk
import Derived.Test.YtaifdjmejglkgaaGreatPlain
import Derived.WalkKit
import Derived.ProofKit
import Derived.OpenShut
import Derived.ShutString
import Derived.ChangeOld
import Derived.Below
import Derived.Carry
import Derived.SizedLaws
namespace Go.Proofs.YtaifdjmejglkgaaGreat.fnExactValidPlan
open Go.ChangeShapes Go.WideShapes Go.ChangeAt Go.RowKit
set_option maxRecDepth 100000
theorem own : ownKnob Tryz.prog.godebug = none := by kernel_rfl
theorem laidOut : laidOutB Tryz.prog = true := by kernel_rfl
abbrev A0 : Ev.Ty := open Ev Ev.Z in Tc66acf8c
theorem ty0 : Ev.tyOk Tryz.prog 30 39 A0 = true := by kernel_rfl
theorem walk {W : World} {vals : List Value} (x0 : Ev.El A0) (f0 : Ev.FitsEl A0 x0) (ha : Ev.ArgsRep (fun _ => undef) W (· < W.heap.size) [⟨A0, x0⟩] vals) :
    Calls Tryz.prog 3 vals.toArray W fun e w' => e = .returned (.bool true) ∧ Below W.heap.size W w' := by
  obtain ⟨F, h⟩ := Ev.Z.law x0 f0
  exact Ev.law_calls (φ := .no) (Ev.EnvOk.contract (Ev.Z.ok_E_laws_FnExactValidPlan F) (e := Ev.Z.en_laws_FnExactValidPlan F) (x := (x0, ())) (r := (true, ())) h) Tryz.func3 (by kernel_rfl) ha
theorem lifted (os : Os) (started : os.Started) (H : Type) (enc : TypeId × Value → H) :
    ReturnsInHanded {} Tryz.checked os 3 .any (Rows.fnExactValidPlanSpec.pre6 enc Tryz.prog Tryz.f3 Rows.fnExactValidPlanRow.domain false) (Rows.fnExactValidPlanSpec.post enc Tryz.prog Tryz.f3 false true false false) := by
  refine returnsInHanded_of_change_sized (C := Tryz.checked) own started (by kernel_rfl) Tryz.func3
    (ChangeSpec.witness6 (enc := enc) (C := Tryz.checked) false ⟨#[], #[Ev.mkVal A0 (Ev.zeroVals A0)], []⟩ 12 (by kernel_rfl) (by kernel_rfl) (by kernel_rfl) (by kernel_rfl)) ?_
  intro W base args ds gs before hval0 hW hcnd hsz0 _
  have hval : ∀ (j : Nat) t v, Tryz.f3.params[j]? = some t → args[j]? = some v → Value.okWide Tryz.prog W .any base t v := hval0
  have hW' := hW
  obtain ⟨p, q, hA0, hV, rfl, hfz, hnd⟩ := hW
  have hA : DataW.TrodAll enc Tryz.prog W 0 (fun _ => true) true Tryz.f3.params.toList args.toList ds p := hA0
  rw [Tryz.params3] at hA hval
  obtain ⟨v0, vs0, d0, ds0, p0, q0, hargs, rfl, rfl, h0, r0⟩ := trodAll_cons hA
  obtain ⟨rfl, rfl, rfl⟩ := trodAll_nil r0
  obtain rfl : args = #[v0] := by cases args; simp_all
  obtain ⟨rfl, rfl⟩ := trodVars_none hV
  obtain ⟨cs0, x0, e0, y0, z0⟩ := Ev.arg_rep (fun _ => undef) ty0 (by kernel_rfl) (hval 0 39 v0 rfl rfl) h0
  have lt0 : ∀ x ∈ p0, x.block < W.heap.size := by obtain ⟨m, hm⟩ := h0; exact DataW.trod_lt m _ _ _ hm
  clear hA0 hval0 hsz0
  refine (walk x0 z0 (vals := [v0]) ⟨cs0, _, by rw [e0], y0, rfl⟩).mono fun e W' ⟨he, bel⟩ => ?_
  subst he
  exact ⟨_, rfl, _, _, _, [], _, [], hW', trodAll_mk1 (shut_bool Tryz.underlying4 _), (trodAll_cons_mk (Below.trod laidOut (by kernel_rfl) (of_decide_eq_true (by kernel_rfl)) h0 bel lt0) trodAll_mk0), rfl, bel.frame _, fun h => by cases h⟩
theorem over : Rows.fnExactValidPlanRow.holds Tryz.pinned (OpenSpec.ofChange Rows.fnExactValidPlanSpec) :=
  OpenClaim.holds_of_wide 3 Tryz.f3 rfl rfl rfl rfl rfl rfl rfl ⟨rfl, rfl, rfl, rfl, rfl⟩ rfl rfl rfl rfl rfl (by kernel_rfl) Tryz.func3 (by kernel_rfl)
    (of_decide_eq_true (by kernel_rfl)) (by unfold Func.isWrapper; first | (rw [if_pos (by decide +kernel)]; kernel_rfl) | (rw [if_neg (by decide +kernel)]; exact ⟨rfl, rfl⟩))
    (fun os started H enc _ => lifted os started H enc)
end Go.Proofs.YtaifdjmejglkgaaGreat.fnExactValidPlan
namespace Go.Proofs.YtaifdjmejglkgaaGreat
theorem fnExactValidPlan_holds : Rows.FnExactValidPlanSaid := fnExactValidPlan.over
#print axioms fnExactValidPlan_holds
end Go.Proofs.YtaifdjmejglkgaaGreat
