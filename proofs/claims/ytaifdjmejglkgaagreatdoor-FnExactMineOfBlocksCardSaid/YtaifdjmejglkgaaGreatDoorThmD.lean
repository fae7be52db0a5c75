/- A part of the proof: lemmas that the law's theorem uses; their conditions stand in each theorem. -/
import Derived.Test.YtaifdjmejglkgaaGreatDoorEnv
namespace Go.Ev.Z
set_option maxRecDepth 100000
open Go.Proofs
theorem st_laws_toBlockS_l0 (F : Nat) : StepOk (E_laws_toBlock F) (mkL F (ls_laws_toBlockS F)) 0 (loopAt Tryz.f7 0) (laws_toBlockS_l0 F) := fun k x K => by kernel_rfl
theorem eq_laws_toBlockS (F : Nat) (x : Elts (en_laws_toBlockS F).ins) : evF (E_laws_toBlock F) (mkL F (ls_laws_toBlockS F)) Tryz.f7 (en_laws_toBlockS F).outs (mkArgs (en_laws_toBlockS F).ins x) = (en_laws_toBlockS F).fn x := by kernel_rfl
theorem st_spec_l29One_l0 (F : Nat) : StepOk (E_spec_l01Name F) (mkL F (ls_spec_l29One F)) 0 (loopAt Tryz.f67 0) (spec_l29One_l0 F) := fun k x K => by kernel_rfl
theorem eq_spec_l29One (F : Nat) (x : Elts (en_spec_l29One F).ins) : evF (E_spec_l01Name F) (mkL F (ls_spec_l29One F)) Tryz.f67 (en_spec_l29One F).outs (mkArgs (en_spec_l29One F).ins x) = (en_spec_l29One F).fn x := by kernel_rfl
theorem st_spec_l01Split_l0 (F : Nat) : StepOk (E_spec_l00In F) (mkL F (ls_spec_l01Split F)) 0 (loopAt Tryz.f69 0) (spec_l01Split_l0 F) := fun k x K => by kernel_rfl
theorem eq_spec_l01Split (F : Nat) (x : Elts (en_spec_l01Split F).ins) : evF (E_spec_l00In F) (mkL F (ls_spec_l01Split F)) Tryz.f69 (en_spec_l01Split F).outs (mkArgs (en_spec_l01Split F).ins x) = (en_spec_l01Split F).fn x := by kernel_rfl
theorem eq_spec_l03Read (F : Nat) (x : Elts (en_spec_l03Read F).ins) : evF (E_spec_l03Ok F) (mkL F (ls_spec_l03Read F)) Tryz.f26 (en_spec_l03Read F).outs (mkArgs (en_spec_l03Read F).ins x) = (en_spec_l03Read F).fn x := by kernel_rfl
theorem eq_impl_ValidBlock (F : Nat) (x : Elts (en_impl_ValidBlock F).ins) : evF (E_strings_Contains F) (mkL F (ls_impl_ValidBlock F)) Tryz.f72 (en_impl_ValidBlock F).outs (mkArgs (en_impl_ValidBlock F).ins x) = (en_impl_ValidBlock F).fn x := by kernel_rfl
theorem eq_impl_compareBlocks (F : Nat) (x : Elts (en_impl_compareBlocks F).ins) : evF (E_cmp_Or_int F) (mkL F (ls_impl_compareBlocks F)) Tryz.f73 (en_impl_compareBlocks F).outs (mkArgs (en_impl_compareBlocks F).ins x) = (en_impl_compareBlocks F).fn x := by kernel_rfl
theorem st_impl_ListText_l0 (F : Nat) : StepOk (E_strings_Join F) (mkL F (ls_impl_ListText F)) 0 (loopAt Tryz.f158 0) (impl_ListText_l0 F) := fun k x K => by kernel_rfl
theorem eq_impl_ListText (F : Nat) (x : Elts (en_impl_ListText F).ins) : evF (E_strings_Join F) (mkL F (ls_impl_ListText F)) Tryz.f158 (en_impl_ListText F).outs (mkArgs (en_impl_ListText F).ins x) = (en_impl_ListText F).fn x := by kernel_rfl
theorem eq_impl_ValidAirway (F : Nat) (x : Elts (en_impl_ValidAirway F).ins) : evF (E_impl_junctionOk F) (mkL F (ls_impl_ValidAirway F)) Tryz.f123 (en_impl_ValidAirway F).outs (mkArgs (en_impl_ValidAirway F).ins x) = (en_impl_ValidAirway F).fn x := by kernel_rfl
theorem eq_impl_Mine_hasJunction (F : Nat) (x : Elts (en_impl_Mine_hasJunction F).ins) : evF (E_impl_ReadAirway F) (mkL F (ls_impl_Mine_hasJunction F)) Tryz.f76 (en_impl_Mine_hasJunction F).outs (mkArgs (en_impl_Mine_hasJunction F).ins x) = (en_impl_Mine_hasJunction F).fn x := by kernel_rfl
theorem st_laws_eqAirwayS_l0 (F : Nat) : StepOk (E_laws_eqAirway F) (mkL F (ls_laws_eqAirwayS F)) 0 (loopAt Tryz.f32 0) (laws_eqAirwayS_l0 F) := fun k x K => by kernel_rfl
theorem eq_laws_eqAirwayS (F : Nat) (x : Elts (en_laws_eqAirwayS F).ins) : evF (E_laws_eqAirway F) (mkL F (ls_laws_eqAirwayS F)) Tryz.f32 (en_laws_eqAirwayS F).outs (mkArgs (en_laws_eqAirwayS F).ins x) = (en_laws_eqAirwayS F).fn x := by kernel_rfl
theorem st_laws_markText_l0 (F : Nat) : StepOk (E_laws_eqBlockS F) (mkL F (ls_laws_markText F)) 0 (loopAt Tryz.f34 0) (laws_markText_l0 F) := fun k x K => by kernel_rfl
theorem eq_laws_markText (F : Nat) (x : Elts (en_laws_markText F).ins) : evF (E_laws_eqBlockS F) (mkL F (ls_laws_markText F)) Tryz.f34 (en_laws_markText F).outs (mkArgs (en_laws_markText F).ins x) = (en_laws_markText F).fn x := by kernel_rfl
theorem st_laws_heldAirwayS_l0 (F : Nat) : StepOk (E_laws_markMine F) (mkL F (ls_laws_heldAirwayS F)) 0 (loopAt Tryz.f36 0) (laws_heldAirwayS_l0 F) := fun k x K => by kernel_rfl
theorem eq_laws_heldAirwayS (F : Nat) (x : Elts (en_laws_heldAirwayS F).ins) : evF (E_laws_markMine F) (mkL F (ls_laws_heldAirwayS F)) Tryz.f36 (en_laws_heldAirwayS F).outs (mkArgs (en_laws_heldAirwayS F).ins x) = (en_laws_heldAirwayS F).fn x := by kernel_rfl
end Go.Ev.Z
