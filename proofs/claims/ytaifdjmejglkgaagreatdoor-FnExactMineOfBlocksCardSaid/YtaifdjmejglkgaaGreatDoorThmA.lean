/- A part of the proof: lemmas that the law's theorem uses; their conditions stand in each theorem. -/
import Derived.Test.YtaifdjmejglkgaaGreatDoorEnv
namespace Go.Ev.Z
set_option maxRecDepth 100000
open Go.Proofs
theorem eq_laws_szBlock (F : Nat) (x : Elts (en_laws_szBlock F).ins) : evF (E0 F) (mkL F (ls_laws_szBlock F)) Tryz.f23 (en_laws_szBlock F).outs (mkArgs (en_laws_szBlock F).ins x) = (en_laws_szBlock F).fn x := by kernel_rfl
theorem eq_spec_l01Small (F : Nat) (x : Elts (en_spec_l01Small F).ins) : evF (E_laws_toBlockS F) (mkL F (ls_spec_l01Small F)) Tryz.f150 (en_spec_l01Small F).outs (mkArgs (en_spec_l01Small F).ins x) = (en_spec_l01Small F).fn x := by kernel_rfl
theorem eq_spec_l29Before (F : Nat) (x : Elts (en_spec_l29Before F).ins) : evF (E_spec_l29One F) (mkL F (ls_spec_l29Before F)) Tryz.f68 (en_spec_l29Before F).outs (mkArgs (en_spec_l29Before F).ins x) = (en_spec_l29Before F).fn x := by kernel_rfl
theorem st_spec_l01Number_l0 (F : Nat) : StepOk (E_spec_l01Split F) (mkL F (ls_spec_l01Number F)) 0 (loopAt Tryz.f116 0) (spec_l01Number_l0 F) := fun k x K => by kernel_rfl
theorem eq_spec_l01Number (F : Nat) (x : Elts (en_spec_l01Number F).ins) : evF (E_spec_l01Split F) (mkL F (ls_spec_l01Number F)) Tryz.f116 (en_spec_l01Number F).outs (mkArgs (en_spec_l01Number F).ins x) = (en_spec_l01Number F).fn x := by kernel_rfl
theorem st_spec_MineOfBlocks_l0 (F : Nat) : StepOk (E_spec_l03Read F) (mkL F (ls_spec_MineOfBlocks F)) 0 (loopAt Tryz.f6 0) (spec_MineOfBlocks_l0 F) := fun k x K => by kernel_rfl
theorem eq_spec_MineOfBlocks (F : Nat) (x : Elts (en_spec_MineOfBlocks F).ins) : evF (E_spec_l03Read F) (mkL F (ls_spec_MineOfBlocks F)) Tryz.f6 (en_spec_MineOfBlocks F).outs (mkArgs (en_spec_MineOfBlocks F).ins x) = (en_spec_MineOfBlocks F).fn x := by kernel_rfl
theorem eq_cmp_isNaN_string (F : Nat) (x : Elts (en_cmp_isNaN_string F).ins) : evF (E_impl_ValidBlock F) (mkL F (ls_cmp_isNaN_string F)) Tryz.f154 (en_cmp_isNaN_string F).outs (mkArgs (en_cmp_isNaN_string F).ins x) = (en_cmp_isNaN_string F).fn x := by kernel_rfl
theorem st_impl_ValidBlocks_l0 (F : Nat) : StepOk (E_impl_compareBlocks F) (mkL F (ls_impl_ValidBlocks F)) 0 (loopAt Tryz.f28 0) (impl_ValidBlocks_l0 F) := fun k x K => by kernel_rfl
theorem eq_impl_ValidBlocks (F : Nat) (x : Elts (en_impl_ValidBlocks F).ins) : evF (E_impl_compareBlocks F) (mkL F (ls_impl_ValidBlocks F)) Tryz.f28 (en_impl_ValidBlocks F).outs (mkArgs (en_impl_ValidBlocks F).ins x) = (en_impl_ValidBlocks F).fn x := by kernel_rfl
theorem st_impl_ReadList_l0 (F : Nat) : StepOk (E_impl_ListText F) (mkL F (ls_impl_ReadList F)) 0 (loopAt Tryz.f122 0) (impl_ReadList_l0 F) := fun k x K => by kernel_rfl
theorem eq_impl_ReadList (F : Nat) (x : Elts (en_impl_ReadList F).ins) : evF (E_impl_ListText F) (mkL F (ls_impl_ReadList F)) Tryz.f122 (en_impl_ReadList F).outs (mkArgs (en_impl_ReadList F).ins x) = (en_impl_ReadList F).fn x := by kernel_rfl
theorem eq_impl_withId (F : Nat) (x : Elts (en_impl_withId F).ins) : evF (E_impl_ValidAirway F) (mkL F (ls_impl_withId F)) Tryz.f124 (en_impl_withId F).outs (mkArgs (en_impl_withId F).ins x) = (en_impl_withId F).fn x := by kernel_rfl
theorem eq_impl_Mine_hasEnds (F : Nat) (x : Elts (en_impl_Mine_hasEnds F).ins) : evF (E_impl_Mine_hasJunction F) (mkL F (ls_impl_Mine_hasEnds F)) Tryz.f31 (en_impl_Mine_hasEnds F).outs (mkArgs (en_impl_Mine_hasEnds F).ins x) = (en_impl_Mine_hasEnds F).fn x := by kernel_rfl
theorem eq_laws_eqMine (F : Nat) (x : Elts (en_laws_eqMine F).ins) : evF (E_laws_eqAirwayS F) (mkL F (ls_laws_eqMine F)) Tryz.f9 (en_laws_eqMine F).outs (mkArgs (en_laws_eqMine F).ins x) = (en_laws_eqMine F).fn x := by kernel_rfl
theorem st_laws_markBlockS_l0 (F : Nat) : StepOk (E_laws_markText F) (mkL F (ls_laws_markBlockS F)) 0 (loopAt Tryz.f11 0) (laws_markBlockS_l0 F) := fun k x K => by kernel_rfl
theorem eq_laws_markBlockS (F : Nat) (x : El (en_laws_markBlockS F).t) (a : Elts (en_laws_markBlockS F).ins) : evFW (E_laws_markText F) (mkL F (ls_laws_markBlockS F)) Tryz.f11 (en_laws_markBlockS F).outs 0 (en_laws_markBlockS F).t x (mkArgs (en_laws_markBlockS F).ins a) = (en_laws_markBlockS F).fn x a := by kernel_rfl
theorem eq_laws_heldMine (F : Nat) (x : Elts (en_laws_heldMine F).ins) : evF (E_laws_heldAirwayS F) (mkL F (ls_laws_heldMine F)) Tryz.f13 (en_laws_heldMine F).outs (mkArgs (en_laws_heldMine F).ins x) = (en_laws_heldMine F).fn x := by kernel_rfl
end Go.Ev.Z
