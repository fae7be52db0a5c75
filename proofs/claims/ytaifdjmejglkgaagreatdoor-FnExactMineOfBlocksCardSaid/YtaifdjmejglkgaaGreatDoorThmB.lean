/- A part of the proof: lemmas that the law's theorem uses; their conditions stand in each theorem. -/
import Derived.Test.YtaifdjmejglkgaaGreatDoorEnv
namespace Go.Ev.Z
set_option maxRecDepth 100000
open Go.Proofs
theorem st_laws_szBlockS_l0 (F : Nat) : StepOk (E_laws_szBlock F) (mkL F (ls_laws_szBlockS F)) 0 (loopAt Tryz.f5 0) (laws_szBlockS_l0 F) := fun k x K => by kernel_rfl
theorem eq_laws_szBlockS (F : Nat) (x : Elts (en_laws_szBlockS F).ins) : evF (E_laws_szBlock F) (mkL F (ls_laws_szBlockS F)) Tryz.f5 (en_laws_szBlockS F).outs (mkArgs (en_laws_szBlockS F).ins x) = (en_laws_szBlockS F).fn x := by kernel_rfl
theorem eq_spec_l01Digit (F : Nat) (x : Elts (en_spec_l01Digit F).ins) : evF (E_spec_l01Small F) (mkL F (ls_spec_l01Digit F)) Tryz.f151 (en_spec_l01Digit F).outs (mkArgs (en_spec_l01Digit F).ins x) = (en_spec_l01Digit F).fn x := by kernel_rfl
theorem st_spec_l29Ok_l0 (F : Nat) : StepOk (E_spec_l29Before F) (mkL F (ls_spec_l29Ok F)) 0 (loopAt Tryz.f24 0) (spec_l29Ok_l0 F) := fun k x K => by kernel_rfl
theorem eq_spec_l29Ok (F : Nat) (x : Elts (en_spec_l29Ok F).ins) : evF (E_spec_l29Before F) (mkL F (ls_spec_l29Ok F)) Tryz.f24 (en_spec_l29Ok F).outs (mkArgs (en_spec_l29Ok F).ins x) = (en_spec_l29Ok F).fn x := by kernel_rfl
theorem st_spec_ReadList_l0 (F : Nat) : StepOk (E_spec_l01Number F) (mkL F (ls_spec_ReadList F)) 0 (loopAt Tryz.f70 0) (spec_ReadList_l0 F) := fun k x K => by kernel_rfl
theorem eq_spec_ReadList (F : Nat) (x : Elts (en_spec_ReadList F).ins) : evF (E_spec_l01Number F) (mkL F (ls_spec_ReadList F)) Tryz.f70 (en_spec_ReadList F).outs (mkArgs (en_spec_ReadList F).ins x) = (en_spec_ReadList F).fn x := by kernel_rfl
theorem st_impl_onlyNameBytes_l0 (F : Nat) : StepOk (E_spec_MineOfBlocks F) (mkL F (ls_impl_onlyNameBytes F)) 0 (loopAt Tryz.f152 0) (impl_onlyNameBytes_l0 F) := fun k x K => by kernel_rfl
theorem eq_impl_onlyNameBytes (F : Nat) (x : Elts (en_impl_onlyNameBytes F).ins) : evF (E_spec_MineOfBlocks F) (mkL F (ls_impl_onlyNameBytes F)) Tryz.f152 (en_impl_onlyNameBytes F).outs (mkArgs (en_impl_onlyNameBytes F).ins x) = (en_impl_onlyNameBytes F).fn x := by kernel_rfl
theorem eq_cmp_Compare_string (F : Nat) (x : Elts (en_cmp_Compare_string F).ins) : evF (E_cmp_isNaN_string F) (mkL F (ls_cmp_Compare_string F)) Tryz.f120 (en_cmp_Compare_string F).outs (mkArgs (en_cmp_Compare_string F).ins x) = (en_cmp_Compare_string F).fn x := by kernel_rfl
theorem eq_impl_within (F : Nat) (x : Elts (en_impl_within F).ins) : evF (E_impl_ValidBlocks F) (mkL F (ls_impl_within F)) Tryz.f29 (en_impl_within F).outs (mkArgs (en_impl_within F).ins x) = (en_impl_within F).fn x := by kernel_rfl
theorem eq_impl_readWithId (F : Nat) (x : Elts (en_impl_readWithId F).ins) : evF (E_impl_ReadList F) (mkL F (ls_impl_readWithId F)) Tryz.f74 (en_impl_readWithId F).outs (mkArgs (en_impl_readWithId F).ins x) = (en_impl_readWithId F).fn x := by kernel_rfl
theorem eq_impl_AirwayText (F : Nat) (x : Elts (en_impl_AirwayText F).ins) : evF (E_impl_withId F) (mkL F (ls_impl_AirwayText F)) Tryz.f75 (en_impl_AirwayText F).outs (mkArgs (en_impl_AirwayText F).ins x) = (en_impl_AirwayText F).fn x := by kernel_rfl
theorem st_impl_MineOfBlocks_l0 (F : Nat) : StepOk (E_impl_Mine_hasEnds F) (mkL F (ls_impl_MineOfBlocks F)) 1 (loopAt Tryz.f8 1) (impl_MineOfBlocks_l0 F) := fun k x K => by kernel_rfl
theorem eq_impl_MineOfBlocks (F : Nat) (x : Elts (en_impl_MineOfBlocks F).ins) : evF (E_impl_Mine_hasEnds F) (mkL F (ls_impl_MineOfBlocks F)) Tryz.f8 (en_impl_MineOfBlocks F).outs (mkArgs (en_impl_MineOfBlocks F).ins x) = (en_impl_MineOfBlocks F).fn x := by kernel_rfl
theorem eq_laws_eqBlock (F : Nat) (x : Elts (en_laws_eqBlock F).ins) : evF (E_laws_eqMine F) (mkL F (ls_laws_eqBlock F)) Tryz.f33 (en_laws_eqBlock F).outs (mkArgs (en_laws_eqBlock F).ins x) = (en_laws_eqBlock F).fn x := by kernel_rfl
theorem st_laws_markAirwayS_l0 (F : Nat) : StepOk (E_laws_markBlockS F) (mkL F (ls_laws_markAirwayS F)) 0 (loopAt Tryz.f35 0) (laws_markAirwayS_l0 F) := fun k x K => by kernel_rfl
theorem eq_laws_markAirwayS (F : Nat) (x : El (en_laws_markAirwayS F).t) (a : Elts (en_laws_markAirwayS F).ins) : evFW (E_laws_markBlockS F) (mkL F (ls_laws_markAirwayS F)) Tryz.f35 (en_laws_markAirwayS F).outs 0 (en_laws_markAirwayS F).t x (mkArgs (en_laws_markAirwayS F).ins a) = (en_laws_markAirwayS F).fn x a := by kernel_rfl
theorem eq_laws_FnExactMineOfBlocks (F : Nat) (x : Elts (en_laws_FnExactMineOfBlocks F).ins) : evF (E_laws_heldMine F) (mkL F (ls_laws_FnExactMineOfBlocks F)) Tryz.f3 (en_laws_FnExactMineOfBlocks F).outs (mkArgs (en_laws_FnExactMineOfBlocks F).ins x) = (en_laws_FnExactMineOfBlocks F).fn x := by kernel_rfl
end Go.Ev.Z
