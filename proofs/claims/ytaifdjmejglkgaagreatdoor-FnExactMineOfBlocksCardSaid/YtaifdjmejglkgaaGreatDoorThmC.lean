/- A part of the proof: lemmas that the law's theorem uses; their conditions stand in each theorem. -/
import Derived.Test.YtaifdjmejglkgaaGreatDoorEnv
namespace Go.Ev.Z
set_option maxRecDepth 100000
open Go.Proofs
theorem eq_laws_toBlock (F : Nat) (x : Elts (en_laws_toBlock F).ins) : evF (E_laws_szBlockS F) (mkL F (ls_laws_toBlock F)) Tryz.f27 (en_laws_toBlock F).outs (mkArgs (en_laws_toBlock F).ins x) = (en_laws_toBlock F).fn x := by kernel_rfl
theorem st_spec_l01Name_l0 (F : Nat) : StepOk (E_spec_l01Digit F) (mkL F (ls_spec_l01Name F)) 0 (loopAt Tryz.f115 0) (spec_l01Name_l0 F) := fun k x K => by kernel_rfl
theorem eq_spec_l01Name (F : Nat) (x : Elts (en_spec_l01Name F).ins) : evF (E_spec_l01Digit F) (mkL F (ls_spec_l01Name F)) Tryz.f115 (en_spec_l01Name F).outs (mkArgs (en_spec_l01Name F).ins x) = (en_spec_l01Name F).fn x := by kernel_rfl
theorem eq_spec_l00In (F : Nat) (x : Elts (en_spec_l00In F).ins) : evF (E_spec_l29Ok F) (mkL F (ls_spec_l00In F)) Tryz.f25 (en_spec_l00In F).outs (mkArgs (en_spec_l00In F).ins x) = (en_spec_l00In F).fn x := by kernel_rfl
theorem eq_spec_l03Ok (F : Nat) (x : Elts (en_spec_l03Ok F).ins) : evF (E_spec_ReadList F) (mkL F (ls_spec_l03Ok F)) Tryz.f71 (en_spec_l03Ok F).outs (mkArgs (en_spec_l03Ok F).ins x) = (en_spec_l03Ok F).fn x := by kernel_rfl
theorem eq_impl_IsName (F : Nat) (x : Elts (en_impl_IsName F).ins) : evF (E_impl_onlyNameBytes F) (mkL F (ls_impl_IsName F)) Tryz.f117 (en_impl_IsName F).outs (mkArgs (en_impl_IsName F).ins x) = (en_impl_IsName F).fn x := by kernel_rfl
theorem st_cmp_Or_int_l0 (F : Nat) : StepOk (E_cmp_Compare_string F) (mkL F (ls_cmp_Or_int F)) 0 (loopAt Tryz.f119 0) (cmp_Or_int_l0 F) := fun k x K => by kernel_rfl
theorem eq_cmp_Or_int (F : Nat) (x : Elts (en_cmp_Or_int F).ins) : evF (E_cmp_Compare_string F) (mkL F (ls_cmp_Or_int F)) Tryz.f119 (en_cmp_Or_int F).outs (mkArgs (en_cmp_Or_int F).ins x) = (en_cmp_Or_int F).fn x := by kernel_rfl
theorem eq_impl_Decimal (F : Nat) (x : Elts (en_impl_Decimal F).ins) : evF (E_strconv_FormatInt F) (mkL F (ls_impl_Decimal F)) Tryz.f54 (en_impl_Decimal F).outs (mkArgs (en_impl_Decimal F).ins x) = (en_impl_Decimal F).fn x := by kernel_rfl
theorem eq_impl_junctionOk (F : Nat) (x : Elts (en_impl_junctionOk F).ins) : evF (E_impl_readWithId F) (mkL F (ls_impl_junctionOk F)) Tryz.f159 (en_impl_junctionOk F).outs (mkArgs (en_impl_junctionOk F).ins x) = (en_impl_junctionOk F).fn x := by kernel_rfl
theorem eq_impl_ReadAirway (F : Nat) (x : Elts (en_impl_ReadAirway F).ins) : evF (E_impl_AirwayText F) (mkL F (ls_impl_ReadAirway F)) Tryz.f30 (en_impl_ReadAirway F).outs (mkArgs (en_impl_ReadAirway F).ins x) = (en_impl_ReadAirway F).fn x := by kernel_rfl
theorem eq_laws_eqAirway (F : Nat) (x : Elts (en_laws_eqAirway F).ins) : evF (E_impl_MineOfBlocks F) (mkL F (ls_laws_eqAirway F)) Tryz.f77 (en_laws_eqAirway F).outs (mkArgs (en_laws_eqAirway F).ins x) = (en_laws_eqAirway F).fn x := by kernel_rfl
theorem st_laws_eqBlockS_l0 (F : Nat) : StepOk (E_laws_eqBlock F) (mkL F (ls_laws_eqBlockS F)) 0 (loopAt Tryz.f10 0) (laws_eqBlockS_l0 F) := fun k x K => by kernel_rfl
theorem eq_laws_eqBlockS (F : Nat) (x : Elts (en_laws_eqBlockS F).ins) : evF (E_laws_eqBlock F) (mkL F (ls_laws_eqBlockS F)) Tryz.f10 (en_laws_eqBlockS F).outs (mkArgs (en_laws_eqBlockS F).ins x) = (en_laws_eqBlockS F).fn x := by kernel_rfl
theorem eq_laws_markMine (F : Nat) (x : El (en_laws_markMine F).t) (a : Elts (en_laws_markMine F).ins) : evFW (E_laws_markAirwayS F) (mkL F (ls_laws_markMine F)) Tryz.f12 (en_laws_markMine F).outs 2 (en_laws_markMine F).t x (mkArgs (en_laws_markMine F).ins a) = (en_laws_markMine F).fn x a := by kernel_rfl
end Go.Ev.Z
