/- The law FnExactLoadProblems returns true for every input, and its arguments read afterwards as before. -/
import Derived.Test.YtbkcabkfbaikkaaGreatDoorTie
import Derived.Test.YtbkcabkfbaikkaaGreatDoorCards
import Derived.Test.YtbkcabkfbaikkaaGreatDoorEvThree
import Derived.Test.YtbkcabkfbaikkaaGreatDoorOk
import Derived.Test.YtbkcabkfbaikkaaGreatDoorPlain
import Derived.WalkKit
import Derived.ProofKit
import Derived.OpenShut
import Derived.ShutString
import Derived.ChangeOld
import Derived.Below
import Derived.Carry
import Derived.SizedLaws
import Derived.LaidMore
import Derived.Lay
import Derived.Stop.Joined
import Derived.SevenTiedAt
import Derived.Shelf.Vars
namespace Go.Proofs.YtbkcabkfbaikkaaGreatDoor.fnExactLoadProblems
open Go.ChangeShapes Go.WideShapes Go.ChangeAt Go.RowKit
set_option maxRecDepth 100000
theorem own : ownKnob Tryz.prog.godebug = none := by kernel_rfl
theorem laidOut : laidOutB Tryz.prog = true := by kernel_rfl
abbrev A0 : Ev.Ty := open Ev Ev.Z in Tc66acf8c
theorem ty0 : Ev.tyOk Tryz.prog 30 39 A0 = true := by kernel_rfl
theorem walk {W : World} {vals : List Value} (x0 : Ev.El A0) (f0 : Ev.FitsEl A0 x0) (hG : Ev.Z.GG.G W) (ha : Ev.ArgsRep (fun _ => undef) W (· < W.heap.size) [⟨A0, x0⟩] vals) :
    Calls Tryz.prog 3 vals.toArray W fun e w' => e = .returned (.bool true) ∧ Below W.heap.size W w' := by
  obtain ⟨F, h⟩ := Ev.Z.law x0 f0
  exact Ev.law_calls (φ := .no) (Ev.EnvOk.contract (Ev.Z.ok_E_laws_FnExactLoadProblems F) (e := Ev.Z.en_laws_FnExactLoadProblems F) (x := (x0, ())) (r := (true, ())) h) Tryz.func3 (by kernel_rfl) hG ha
theorem gg_of {W : World} {ps : List MemPlace} (_hs : W.ShapedOpen Tryz.prog) (h : DataW.LaidVars Tryz.prog W Rows.fnExactLoadProblemsRow.laid ps) : Ev.Z.GG.G W := by
  have ht := Ev.tabIs_of_mem (name := "internal/strconv.uint64pow10") (k := .u64) (zs := Lib.pow10Tab) (g := 0) (t := 305) (e := 285) (n := 20) (by kernel_rfl) (by kernel_rfl) (by kernel_rfl) (by kernel_rfl) (by kernel_rfl) (by kernel_rfl) h (List.mem_cons_of_mem _ (List.mem_cons_of_mem _ (List.mem_cons_self ..)))
  refine ⟨⟨Ev.var_lt (g := 0) (by kernel_rfl) ht, fun x hx => by obtain rfl := List.mem_singleton.1 hx; exact ht⟩, fun x hx => ?_⟩
  exact absurd hx (by simp)
theorem of_laid {W : World} (hs : W.ShapedOpen Tryz.prog) (h : laidMetH Tryz.prog Rows.fnExactLoadProblemsRow.laid W) : Ev.Z.GG.G W := by
  rw [MakeChecks.laidMetH_plain _ _ _ (by kernel_rfl)] at h
  obtain ⟨ps, h, _⟩ := h
  exact gg_of hs h
theorem lifted (os : Os) (started : os.Started) (H : Type) (enc : TypeId × Value → H) :
    ReturnsInHanded {} Tryz.checked os 3 .any (fun w args => (Rows.fnExactLoadProblemsSpec.pre enc Tryz.prog Tryz.f3 [] false w args ∧ laidMetH Tryz.prog Rows.fnExactLoadProblemsRow.laid w) ∧ sizedMet enc Tryz.prog Tryz.f3 (OpenSpec.ofChange Rows.fnExactLoadProblemsSpec) false w args) (Rows.fnExactLoadProblemsSpec.post enc Tryz.prog Tryz.f3 false true false false) := by
  refine Ev.returnsInHanded_and_shaped (C := Tryz.checked) (X := fun w _ => laidMetH Tryz.prog Rows.fnExactLoadProblemsRow.laid w) (fun _ _ _ hh h => h.of_heap hh) own started (by kernel_rfl) Tryz.func3
    (ChangeSpec.witness_shaped (enc := enc) (C := Tryz.checked) (os := os) (X := fun w _ => laidMetH Tryz.prog Rows.fnExactLoadProblemsRow.laid w) false (World.laidAll Tryz.prog os Rows.fnExactLoadProblemsRow.laid) #[Ev.mkVal A0 (Ev.zeroVals A0)] 12 (World.laidAll_os _ _ _) (World.shaped_of_ZipB (by kernel_rfl) (by kernel_rfl)) (by kernel_rfl) (by kernel_rfl) (by kernel_rfl) (by rw [MakeChecks.laidMetH_plain _ _ _ (by kernel_rfl)]; exact laidMet_laidAll _ (by kernel_rfl) (by kernel_rfl))) ?_
  intro W base args ds gs before hval0 hW hcnd _ hL hsh
  have hG := of_laid hsh hL
  have hval : ∀ (j : Nat) t v, Tryz.f3.params[j]? = some t → args[j]? = some v → Value.okWide Tryz.prog W .any base t v := hval0
  have hW' := hW
  obtain ⟨p, q, hA0, hV, rfl, hfz, hnd⟩ := hW
  have hA : DataW.TrodAll enc Tryz.prog W 0 (fun _ => true) true Tryz.f3.params.toList args.toList ds p := hA0
  rw [Tryz.params3] at hA hval
  obtain ⟨v0, vs0, d0, ds0, p0, q0, hargs, rfl, rfl, h0, r0⟩ := trodAll_cons hA
  obtain ⟨rfl, rfl, rfl⟩ := trodAll_nil r0
  obtain rfl : args = #[v0] := by cases args; simp_all
  obtain ⟨rfl, rfl⟩ := trodVars_none hV
  obtain ⟨cs0, x0, e0, y0, z0⟩ := Ev.arg_rep (fun _ => undef) ty0 (by kernel_rfl) (hval 0 39 v0 rfl rfl) h0
  have lt0 : ∀ x ∈ p0, x.block < W.heap.size := by obtain ⟨m, hm⟩ := h0; exact DataW.trod_lt m _ _ _ hm
  clear hA0 hval0
  refine (walk x0 z0 (vals := [v0]) hG ⟨cs0, _, by rw [e0], y0, rfl⟩).mono fun e W' ⟨he, bel⟩ => ?_
  subst he
  exact ⟨_, rfl, _, _, _, [], _, [], hW', trodAll_mk1 (shut_bool Tryz.underlying4 _), (trodAll_cons_mk (Below.trod laidOut (by kernel_rfl) (of_decide_eq_true (by kernel_rfl)) h0 bel lt0) trodAll_mk0), rfl, bel.frame _, fun h => by cases h⟩
theorem closed0 : (Rows.fnExactLoadProblemsRow.inPlace == Tryz.prog.inPlace 3) = true := by kernel_rfl
theorem closed1 : (Rows.fnExactLoadProblemsRow.unfollowed == Tryz.prog.unfollowed 3) = true := by kernel_rfl
theorem closed2 : (Rows.fnExactLoadProblemsRow.recurses == Tryz.prog.recurses 3) = true := by kernel_rfl
theorem closed3 : (Rows.fnExactLoadProblemsRow.named == Tryz.prog.varsNamed 3) = true := by kernel_rfl
theorem closed : joinedFacts Tryz.prog 3 Tryz.f3 Rows.fnExactLoadProblemsSpec Rows.fnExactLoadProblemsRow = true := by
  unfold joinedFacts
  rw [closed0, closed1, closed2, closed3]
  kernel_rfl
theorem over : Rows.fnExactLoadProblemsRow.holds Tryz.pinned (OpenSpec.ofChange Rows.fnExactLoadProblemsSpec) :=
  OpenClaim.holds_of_wide 3 Tryz.f3 rfl rfl rfl rfl rfl rfl rfl ⟨rfl, rfl, rfl, rfl, rfl⟩ rfl rfl rfl rfl rfl (by kernel_rfl) Tryz.func3 closed
    (of_decide_eq_true (by kernel_rfl)) (by unfold Func.isWrapper; first | (rw [if_pos (by decide +kernel)]; kernel_rfl) | (rw [if_neg (by decide +kernel)]; exact ⟨rfl, rfl⟩))
    (fun os started H enc _ => lifted os started H enc)
end Go.Proofs.YtbkcabkfbaikkaaGreatDoor.fnExactLoadProblems
namespace Go.Proofs.YtbkcabkfbaikkaaGreatDoor
theorem fnExactLoadProblems_holds : Rows.FnExactLoadProblemsCardSaid :=
  Claim7.holds_tied_plain_at .later [] [.data, .data, .data] true (true, "bd1d5d6ccb90273193fd1934d67bb5e209bcfe6683882ed17fa5e6c87d770f1d") false
    fnExactLoadProblems.over (fun _ h => by cases h) (by kernel_rfl) (fun _ h => by cases h) fnExactLoadProblems_row_tie rfl ⟨rfl, rfl⟩ (by kernel_rfl) rfl
    (fun f fn hf hfn => by
      obtain rfl : f = 3 := Option.some.inj ((show Tryz.prog.funcNamed "loop.example/g01021/laws.FnExactLoadProblems" = some 3 by kernel_rfl).symm.trans hf) |>.symm
      obtain rfl : fn = Tryz.f3 := (Option.some.inj (Tryz.func3.symm.trans hfn)).symm
      exact ⟨by kernel_rfl, fun j t ht => by
        rw [Tryz.params3] at ht
        have hm : t ∈ [39] := by simpa using Array.mem_of_getElem? ht
        have hall : ([39].all fun u => !Tryz.prog.wantsStandIn u) = true := by kernel_rfl
        exact (show Tryz.prog.wantsStandIn t = false by simpa using List.all_eq_true.1 hall t hm)⟩)
    (by kernel_rfl)
#print axioms fnExactLoadProblems_holds
end Go.Proofs.YtbkcabkfbaikkaaGreatDoor
