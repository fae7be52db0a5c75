/- A part of the proof: lemmas that the law's theorem uses; their conditions stand in each theorem. -/
import Derived.Test.YtaifdjmejglkgaaGreatDoorDefs
import Derived.Test.YtaifdjmejglkgaaGreatDoorProg
namespace Go.Ev.Z
set_option maxRecDepth 100000
open Go.Proofs
noncomputable def GG : GP := gpVars Tryz.prog 1 [("internal/strconv.uint64pow10", (Lib.pow10Tab.map fun z => Value.int .u64 z).toArray)] (by kernel_rfl)
theorem ggTab (w : World) (h : GG.G w) : Lib.TabIs Tryz.prog w "internal/strconv.uint64pow10" .u64 Lib.pow10Tab := h.2 _ (List.mem_cons_self ..)
noncomputable def E0 (F : Nat) : Env := baseEnv tab
noncomputable def en_laws_szAirway (F : Nat) : Entry := ⟨125, [Tsiiiiii, (.int .i64)], [((.int .i64), .no)], fun x => laws_szAirway F x.1 x.2.1⟩
noncomputable def ls_laws_szAirway (F : Nat) : List (Nat × LoopFn) := []
noncomputable def E_laws_szAirway (F : Nat) : Env := (E0 F).ext (en_laws_szAirway F)
noncomputable def en_laws_szAirwayS (F : Nat) : Entry := ⟨78, [(.sl Tsiiiiii), (.int .i64)], [((.int .i64), .no)], fun x => laws_szAirwayS F x.1 x.2.1⟩
noncomputable def ls_laws_szAirwayS (F : Nat) : List (Nat × LoopFn) := [(0, laws_szAirwayS_l0 F)]
noncomputable def E_laws_szAirwayS (F : Nat) : Env := (E_laws_szAirway F).ext (en_laws_szAirwayS F)
noncomputable def en_laws_szMine (F : Nat) : Entry := ⟨37, [TiSqsiiiiiip, (.int .i64)], [((.int .i64), .no)], fun x => laws_szMine F x.1 x.2.1⟩
noncomputable def ls_laws_szMine (F : Nat) : List (Nat × LoopFn) := []
noncomputable def E_laws_szMine (F : Nat) : Env := (E_laws_szAirwayS F).ext (en_laws_szMine F)
noncomputable def en_laws_szInt64S (F : Nat) : Entry := ⟨38, [(.sl (.int .i64)), (.int .i64)], [((.int .i64), .no)], fun x => laws_szInt64S F x.1 x.2.1⟩
noncomputable def ls_laws_szInt64S (F : Nat) : List (Nat × LoopFn) := []
noncomputable def E_laws_szInt64S (F : Nat) : Env := (E_laws_szMine F).ext (en_laws_szInt64S F)
noncomputable def en_laws_szInt64SS (F : Nat) : Entry := ⟨126, [(.sl (.sl (.int .i64))), (.int .i64)], [((.int .i64), .no)], fun x => laws_szInt64SS F x.1 x.2.1⟩
noncomputable def ls_laws_szInt64SS (F : Nat) : List (Nat × LoopFn) := [(0, laws_szInt64SS_l0 F)]
noncomputable def E_laws_szInt64SS (F : Nat) : Env := (E_laws_szInt64S F).ext (en_laws_szInt64SS F)
noncomputable def en_laws_szFan (F : Nat) : Entry := ⟨79, [TsiSSi, (.int .i64)], [((.int .i64), .no)], fun x => laws_szFan F x.1 x.2.1⟩
noncomputable def ls_laws_szFan (F : Nat) : List (Nat × LoopFn) := []
noncomputable def E_laws_szFan (F : Nat) : Env := (E_laws_szInt64SS F).ext (en_laws_szFan F)
noncomputable def en_laws_szFanS (F : Nat) : Entry := ⟨39, [(.sl TsiSSi), (.int .i64)], [((.int .i64), .no)], fun x => laws_szFanS F x.1 x.2.1⟩
noncomputable def ls_laws_szFanS (F : Nat) : List (Nat × LoopFn) := [(0, laws_szFanS_l0 F)]
noncomputable def E_laws_szFanS (F : Nat) : Env := (E_laws_szFan F).ext (en_laws_szFanS F)
noncomputable def en_laws_szRefuge (F : Nat) : Entry := ⟨80, [Tsiii, (.int .i64)], [((.int .i64), .no)], fun x => laws_szRefuge F x.1 x.2.1⟩
noncomputable def ls_laws_szRefuge (F : Nat) : List (Nat × LoopFn) := []
noncomputable def E_laws_szRefuge (F : Nat) : Env := (E_laws_szFanS F).ext (en_laws_szRefuge F)
noncomputable def en_laws_szRefugeS (F : Nat) : Entry := ⟨40, [(.sl Tsiii), (.int .i64)], [((.int .i64), .no)], fun x => laws_szRefugeS F x.1 x.2.1⟩
noncomputable def ls_laws_szRefugeS (F : Nat) : List (Nat × LoopFn) := [(0, laws_szRefugeS_l0 F)]
noncomputable def E_laws_szRefugeS (F : Nat) : Env := (E_laws_szRefuge F).ext (en_laws_szRefugeS F)
noncomputable def en_laws_szSensor (F : Nat) : Entry := ⟨81, [Tsiiii, (.int .i64)], [((.int .i64), .no)], fun x => laws_szSensor F x.1 x.2.1⟩
noncomputable def ls_laws_szSensor (F : Nat) : List (Nat × LoopFn) := []
noncomputable def E_laws_szSensor (F : Nat) : Env := (E_laws_szRefugeS F).ext (en_laws_szSensor F)
noncomputable def en_laws_szSensorS (F : Nat) : Entry := ⟨41, [(.sl Tsiiii), (.int .i64)], [((.int .i64), .no)], fun x => laws_szSensorS F x.1 x.2.1⟩
noncomputable def ls_laws_szSensorS (F : Nat) : List (Nat × LoopFn) := [(0, laws_szSensorS_l0 F)]
noncomputable def E_laws_szSensorS (F : Nat) : Env := (E_laws_szSensor F).ext (en_laws_szSensorS F)
noncomputable def en_laws_szPermit (F : Nat) : Entry := ⟨82, [Tsiiii, (.int .i64)], [((.int .i64), .no)], fun x => laws_szPermit F x.1 x.2.1⟩
noncomputable def ls_laws_szPermit (F : Nat) : List (Nat × LoopFn) := []
noncomputable def E_laws_szPermit (F : Nat) : Env := (E_laws_szSensorS F).ext (en_laws_szPermit F)
noncomputable def en_laws_szPermitS (F : Nat) : Entry := ⟨42, [(.sl Tsiiii), (.int .i64)], [((.int .i64), .no)], fun x => laws_szPermitS F x.1 x.2.1⟩
noncomputable def ls_laws_szPermitS (F : Nat) : List (Nat × LoopFn) := [(0, laws_szPermitS_l0 F)]
noncomputable def E_laws_szPermitS (F : Nat) : Env := (E_laws_szPermit F).ext (en_laws_szPermitS F)
noncomputable def en_laws_szDrill (F : Nat) : Entry := ⟨83, [Tisiii, (.int .i64)], [((.int .i64), .no)], fun x => laws_szDrill F x.1 x.2.1⟩
noncomputable def ls_laws_szDrill (F : Nat) : List (Nat × LoopFn) := []
noncomputable def E_laws_szDrill (F : Nat) : Env := (E_laws_szPermitS F).ext (en_laws_szDrill F)
noncomputable def en_laws_szDrillS (F : Nat) : Entry := ⟨43, [(.sl Tisiii), (.int .i64)], [((.int .i64), .no)], fun x => laws_szDrillS F x.1 x.2.1⟩
noncomputable def ls_laws_szDrillS (F : Nat) : List (Nat × LoopFn) := [(0, laws_szDrillS_l0 F)]
noncomputable def E_laws_szDrillS (F : Nat) : Env := (E_laws_szDrill F).ext (en_laws_szDrillS F)
noncomputable def en_laws_szDesk (F : Nat) : Entry := ⟨14, [T5d55a700, (.int .i64)], [((.int .i64), .no)], fun x => laws_szDesk F x.1 x.2.1⟩
noncomputable def ls_laws_szDesk (F : Nat) : List (Nat × LoopFn) := []
noncomputable def E_laws_szDesk (F : Nat) : Env := (E_laws_szDrillS F).ext (en_laws_szDesk F)
noncomputable def en_laws_toAirway (F : Nat) : Entry := ⟨136, [Tsiiiiii], [(Tsiiiiii, (.pr .no (.pr .no (.pr .no (.pr .no (.pr .no (.pr .no (.pr .no .no))))))))], fun x => laws_toAirway F x.1⟩
noncomputable def ls_laws_toAirway (F : Nat) : List (Nat × LoopFn) := []
noncomputable def E_laws_toAirway (F : Nat) : Env := (E_laws_szDesk F).ext (en_laws_toAirway F)
noncomputable def en_laws_toAirwayS (F : Nat) : Entry := ⟨93, [(.sl Tsiiiiii)], [((.sl Tsiiiiii), (.own none (.pr .no (.pr .no (.pr .no (.pr .no (.pr .no (.pr .no (.pr .no .no)))))))))], fun x => laws_toAirwayS F x.1⟩
noncomputable def ls_laws_toAirwayS (F : Nat) : List (Nat × LoopFn) := [(0, laws_toAirwayS_l0 F)]
noncomputable def E_laws_toAirwayS (F : Nat) : Env := (E_laws_toAirway F).ext (en_laws_toAirwayS F)
noncomputable def en_laws_toMine (F : Nat) : Entry := ⟨46, [TiSqsiiiiiip], [(TiSqsiiiiiip, (.pr .no (.pr (.own none (.pr .no (.pr .no (.pr .no (.pr .no (.pr .no (.pr .no (.pr .no .no)))))))) .no)))], fun x => laws_toMine F x.1⟩
noncomputable def ls_laws_toMine (F : Nat) : List (Nat × LoopFn) := []
noncomputable def E_laws_toMine (F : Nat) : Env := (E_laws_toAirwayS F).ext (en_laws_toMine F)
noncomputable def en_laws_toInt64S (F : Nat) : Entry := ⟨47, [(.sl (.int .i64))], [((.sl (.int .i64)), (.own none .no))], fun x => laws_toInt64S F x.1⟩
noncomputable def ls_laws_toInt64S (F : Nat) : List (Nat × LoopFn) := [(0, laws_toInt64S_l0 F)]
noncomputable def E_laws_toInt64S (F : Nat) : Env := (E_laws_toMine F).ext (en_laws_toInt64S F)
noncomputable def en_laws_toInt64SS (F : Nat) : Entry := ⟨137, [(.sl (.sl (.int .i64)))], [((.sl (.sl (.int .i64))), (.own none (.own none .no)))], fun x => laws_toInt64SS F x.1⟩
noncomputable def ls_laws_toInt64SS (F : Nat) : List (Nat × LoopFn) := [(0, laws_toInt64SS_l0 F)]
noncomputable def E_laws_toInt64SS (F : Nat) : Env := (E_laws_toInt64S F).ext (en_laws_toInt64SS F)
noncomputable def en_laws_toFan (F : Nat) : Entry := ⟨94, [TsiSSi], [(TsiSSi, (.pr .no (.pr .no (.pr (.own none (.own none .no)) .no))))], fun x => laws_toFan F x.1⟩
noncomputable def ls_laws_toFan (F : Nat) : List (Nat × LoopFn) := []
noncomputable def E_laws_toFan (F : Nat) : Env := (E_laws_toInt64SS F).ext (en_laws_toFan F)
noncomputable def en_laws_toFanS (F : Nat) : Entry := ⟨48, [(.sl TsiSSi)], [((.sl TsiSSi), (.own none (.pr .no (.pr .no (.pr (.own none (.own none .no)) .no)))))], fun x => laws_toFanS F x.1⟩
noncomputable def ls_laws_toFanS (F : Nat) : List (Nat × LoopFn) := [(0, laws_toFanS_l0 F)]
noncomputable def E_laws_toFanS (F : Nat) : Env := (E_laws_toFan F).ext (en_laws_toFanS F)
noncomputable def en_laws_toRefuge (F : Nat) : Entry := ⟨95, [Tsiii], [(Tsiii, (.pr .no (.pr .no (.pr .no (.pr .no .no)))))], fun x => laws_toRefuge F x.1⟩
noncomputable def ls_laws_toRefuge (F : Nat) : List (Nat × LoopFn) := []
noncomputable def E_laws_toRefuge (F : Nat) : Env := (E_laws_toFanS F).ext (en_laws_toRefuge F)
noncomputable def en_laws_toRefugeS (F : Nat) : Entry := ⟨49, [(.sl Tsiii)], [((.sl Tsiii), (.own none (.pr .no (.pr .no (.pr .no (.pr .no .no))))))], fun x => laws_toRefugeS F x.1⟩
noncomputable def ls_laws_toRefugeS (F : Nat) : List (Nat × LoopFn) := [(0, laws_toRefugeS_l0 F)]
noncomputable def E_laws_toRefugeS (F : Nat) : Env := (E_laws_toRefuge F).ext (en_laws_toRefugeS F)
noncomputable def en_laws_toSensor (F : Nat) : Entry := ⟨96, [Tsiiii], [(Tsiiii, (.pr .no (.pr .no (.pr .no (.pr .no (.pr .no .no))))))], fun x => laws_toSensor F x.1⟩
noncomputable def ls_laws_toSensor (F : Nat) : List (Nat × LoopFn) := []
noncomputable def E_laws_toSensor (F : Nat) : Env := (E_laws_toRefugeS F).ext (en_laws_toSensor F)
noncomputable def en_laws_toSensorS (F : Nat) : Entry := ⟨50, [(.sl Tsiiii)], [((.sl Tsiiii), (.own none (.pr .no (.pr .no (.pr .no (.pr .no (.pr .no .no)))))))], fun x => laws_toSensorS F x.1⟩
noncomputable def ls_laws_toSensorS (F : Nat) : List (Nat × LoopFn) := [(0, laws_toSensorS_l0 F)]
noncomputable def E_laws_toSensorS (F : Nat) : Env := (E_laws_toSensor F).ext (en_laws_toSensorS F)
noncomputable def en_laws_toPermit (F : Nat) : Entry := ⟨97, [Tsiiii], [(Tsiiii, (.pr .no (.pr .no (.pr .no (.pr .no (.pr .no .no))))))], fun x => laws_toPermit F x.1⟩
noncomputable def ls_laws_toPermit (F : Nat) : List (Nat × LoopFn) := []
noncomputable def E_laws_toPermit (F : Nat) : Env := (E_laws_toSensorS F).ext (en_laws_toPermit F)
noncomputable def en_laws_toPermitS (F : Nat) : Entry := ⟨51, [(.sl Tsiiii)], [((.sl Tsiiii), (.own none (.pr .no (.pr .no (.pr .no (.pr .no (.pr .no .no)))))))], fun x => laws_toPermitS F x.1⟩
noncomputable def ls_laws_toPermitS (F : Nat) : List (Nat × LoopFn) := [(0, laws_toPermitS_l0 F)]
noncomputable def E_laws_toPermitS (F : Nat) : Env := (E_laws_toPermit F).ext (en_laws_toPermitS F)
noncomputable def en_laws_toDrill (F : Nat) : Entry := ⟨98, [Tisiii], [(Tisiii, (.pr .no (.pr .no (.pr .no (.pr .no (.pr .no .no))))))], fun x => laws_toDrill F x.1⟩
noncomputable def ls_laws_toDrill (F : Nat) : List (Nat × LoopFn) := []
noncomputable def E_laws_toDrill (F : Nat) : Env := (E_laws_toPermitS F).ext (en_laws_toDrill F)
noncomputable def en_laws_toDrillS (F : Nat) : Entry := ⟨52, [(.sl Tisiii)], [((.sl Tisiii), (.own none (.pr .no (.pr .no (.pr .no (.pr .no (.pr .no .no)))))))], fun x => laws_toDrillS F x.1⟩
noncomputable def ls_laws_toDrillS (F : Nat) : List (Nat × LoopFn) := [(0, laws_toDrillS_l0 F)]
noncomputable def E_laws_toDrillS (F : Nat) : Env := (E_laws_toDrill F).ext (en_laws_toDrillS F)
noncomputable def en_laws_toDesk (F : Nat) : Entry := ⟨16, [T5d55a700], [(T5d55a700, (.pr (.pr .no (.pr (.own none (.pr .no (.pr .no (.pr .no (.pr .no (.pr .no (.pr .no (.pr .no .no)))))))) .no)) (.pr (.own none .no) (.pr (.own none .no) (.pr (.own none (.pr .no (.pr .no (.pr (.own none (.own none .no)) .no)))) (.pr (.own none (.pr .no (.pr .no (.pr .no (.pr .no .no))))) (.pr (.own none (.pr .no (.pr .no (.pr .no (.pr .no (.pr .no .no)))))) (.pr (.own none (.pr .no (.pr .no (.pr .no (.pr .no (.pr .no .no)))))) (.pr (.own none (.pr .no (.pr .no (.pr .no (.pr .no (.pr .no .no)))))) .no)))))))))], fun x => laws_toDesk F x.1⟩
noncomputable def ls_laws_toDesk (F : Nat) : List (Nat × LoopFn) := []
noncomputable def E_laws_toDesk (F : Nat) : Env := (E_laws_toDrillS F).ext (en_laws_toDesk F)
noncomputable def en_spec_l00In (F : Nat) : Entry := ⟨25, [(.int .i64), (.int .i64), (.int .i64)], [(.bool, .no)], fun x => spec_l00In F x.1 x.2.1 x.2.2.1⟩
noncomputable def ls_spec_l00In (F : Nat) : List (Nat × LoopFn) := []
noncomputable def E_spec_l00In (F : Nat) : Env := (E_laws_toDesk F).ext (en_spec_l00In F)
noncomputable def en_spec_l01Small (F : Nat) : Entry := ⟨150, [(.int .u8)], [(.bool, .no)], fun x => spec_l01Small F x.1⟩
noncomputable def ls_spec_l01Small (F : Nat) : List (Nat × LoopFn) := []
noncomputable def E_spec_l01Small (F : Nat) : Env := (E_spec_l00In F).ext (en_spec_l01Small F)
noncomputable def en_spec_l01Digit (F : Nat) : Entry := ⟨151, [(.int .u8)], [(.bool, .no)], fun x => spec_l01Digit F x.1⟩
noncomputable def ls_spec_l01Digit (F : Nat) : List (Nat × LoopFn) := []
noncomputable def E_spec_l01Digit (F : Nat) : Env := (E_spec_l01Small F).ext (en_spec_l01Digit F)
noncomputable def en_spec_l01Name (F : Nat) : Entry := ⟨115, [.str], [(.bool, .no)], fun x => spec_l01Name F x.1⟩
noncomputable def ls_spec_l01Name (F : Nat) : List (Nat × LoopFn) := [(0, spec_l01Name_l0 F)]
noncomputable def E_spec_l01Name (F : Nat) : Env := (E_spec_l01Digit F).ext (en_spec_l01Name F)
noncomputable def en_spec_l03Ok (F : Nat) : Entry := ⟨71, [(.ptr Tsiiiiii)], [(.bool, .no)], fun x => spec_l03Ok F x.1⟩
noncomputable def ls_spec_l03Ok (F : Nat) : List (Nat × LoopFn) := []
noncomputable def E_spec_l03Ok (F : Nat) : Env := (E_spec_l01Name F).ext (en_spec_l03Ok F)
noncomputable def en_spec_l04Junction (F : Nat) : Entry := ⟨127, [(.ptr TiSqsiiiiiip), (.int .i64)], [(.bool, .no)], fun x => spec_l04Junction F x.1 x.2.1⟩
noncomputable def ls_spec_l04Junction (F : Nat) : List (Nat × LoopFn) := []
noncomputable def E_spec_l04Junction (F : Nat) : Env := (E_spec_l03Ok F).ext (en_spec_l04Junction F)
noncomputable def en_spec_l04Ok (F : Nat) : Entry := ⟨84, [(.ptr TiSqsiiiiiip)], [(.bool, .no)], fun x => spec_l04Ok F x.1⟩
noncomputable def ls_spec_l04Ok (F : Nat) : List (Nat × LoopFn) := [(0, spec_l04Ok_l0 F)]
noncomputable def E_spec_l04Ok (F : Nat) : Env := (E_spec_l04Junction F).ext (en_spec_l04Ok F)
noncomputable def en_spec_l03Res (F : Nat) : Entry := ⟨128, [(.int .i64)], [(.bool, .no)], fun x => spec_l03Res F x.1⟩
noncomputable def ls_spec_l03Res (F : Nat) : List (Nat × LoopFn) := []
noncomputable def E_spec_l03Res (F : Nat) : Env := (E_spec_l04Ok F).ext (en_spec_l03Res F)
noncomputable def en_spec_l07Res (F : Nat) : Entry := ⟨85, [(.ptr TiSqsiiiiiip), (.sl (.int .i64))], [(.bool, .no)], fun x => spec_l07Res F x.1 x.2.1⟩
noncomputable def ls_spec_l07Res (F : Nat) : List (Nat × LoopFn) := [(0, spec_l07Res_l0 F)]
noncomputable def E_spec_l07Res (F : Nat) : Env := (E_spec_l03Res F).ext (en_spec_l07Res F)
noncomputable def en_spec_l03Flow (F : Nat) : Entry := ⟨129, [(.int .i64)], [(.bool, .no)], fun x => spec_l03Flow F x.1⟩
noncomputable def ls_spec_l03Flow (F : Nat) : List (Nat × LoopFn) := []
noncomputable def E_spec_l03Flow (F : Nat) : Env := (E_spec_l07Res F).ext (en_spec_l03Flow F)
noncomputable def en_spec_l07Flows (F : Nat) : Entry := ⟨86, [(.ptr TiSqsiiiiiip), (.sl (.int .i64))], [(.bool, .no)], fun x => spec_l07Flows F x.1 x.2.1⟩
noncomputable def ls_spec_l07Flows (F : Nat) : List (Nat × LoopFn) := [(0, spec_l07Flows_l0 F)]
noncomputable def E_spec_l07Flows (F : Nat) : Env := (E_spec_l03Flow F).ext (en_spec_l07Flows F)
noncomputable def en_spec_l06Curve (F : Nat) : Entry := ⟨160, [(.sl (.sl (.int .i64)))], [(.bool, .no)], fun x => spec_l06Curve F x.1⟩
noncomputable def ls_spec_l06Curve (F : Nat) : List (Nat × LoopFn) := [(0, spec_l06Curve_l0 F)]
noncomputable def E_spec_l06Curve (F : Nat) : Env := (E_spec_l07Flows F).ext (en_spec_l06Curve F)
noncomputable def en_spec_l06Ok (F : Nat) : Entry := ⟨130, [(.ptr TsiSSi)], [(.bool, .no)], fun x => spec_l06Ok F x.1⟩
noncomputable def ls_spec_l06Ok (F : Nat) : List (Nat × LoopFn) := []
noncomputable def E_spec_l06Ok (F : Nat) : Env := (E_spec_l06Curve F).ext (en_spec_l06Ok F)
noncomputable def en_spec_l06List (F : Nat) : Entry := ⟨87, [(.sl TsiSSi)], [(.bool, .no)], fun x => spec_l06List F x.1⟩
noncomputable def ls_spec_l06List (F : Nat) : List (Nat × LoopFn) := [(0, spec_l06List_l0 F)]
noncomputable def E_spec_l06List (F : Nat) : Env := (E_spec_l06Ok F).ext (en_spec_l06List F)
noncomputable def en_spec_l07Fans (F : Nat) : Entry := ⟨88, [(.ptr TiSqsiiiiiip), (.sl TsiSSi)], [(.bool, .no)], fun x => spec_l07Fans F x.1 x.2.1⟩
noncomputable def ls_spec_l07Fans (F : Nat) : List (Nat × LoopFn) := [(0, spec_l07Fans_l0 F)]
noncomputable def E_spec_l07Fans (F : Nat) : Env := (E_spec_l06List F).ext (en_spec_l07Fans F)
noncomputable def en_spec_l20One (F : Nat) : Entry := ⟨131, [(.ptr Tsiii)], [(.bool, .no)], fun x => spec_l20One F x.1⟩
noncomputable def ls_spec_l20One (F : Nat) : List (Nat × LoopFn) := []
noncomputable def E_spec_l20One (F : Nat) : Env := (E_spec_l07Fans F).ext (en_spec_l20One F)
noncomputable def en_spec_l20Ok (F : Nat) : Entry := ⟨89, [(.ptr TiSqsiiiiiip), (.sl Tsiii)], [(.bool, .no)], fun x => spec_l20Ok F x.1 x.2.1⟩
noncomputable def ls_spec_l20Ok (F : Nat) : List (Nat × LoopFn) := [(0, spec_l20Ok_l0 F)]
noncomputable def E_spec_l20Ok (F : Nat) : Env := (E_spec_l20One F).ext (en_spec_l20Ok F)
noncomputable def en_spec_l24Reading (F : Nat) : Entry := ⟨161, [(.int .i64)], [(.bool, .no)], fun x => spec_l24Reading F x.1⟩
noncomputable def ls_spec_l24Reading (F : Nat) : List (Nat × LoopFn) := []
noncomputable def E_spec_l24Reading (F : Nat) : Env := (E_spec_l20Ok F).ext (en_spec_l24Reading F)
noncomputable def en_spec_l24One (F : Nat) : Entry := ⟨132, [(.ptr Tsiiii)], [(.bool, .no)], fun x => spec_l24One F x.1⟩
noncomputable def ls_spec_l24One (F : Nat) : List (Nat × LoopFn) := []
noncomputable def E_spec_l24One (F : Nat) : Env := (E_spec_l24Reading F).ext (en_spec_l24One F)
noncomputable def en_spec_l24Ok (F : Nat) : Entry := ⟨90, [(.sl Tsiiii)], [(.bool, .no)], fun x => spec_l24Ok F x.1⟩
noncomputable def ls_spec_l24Ok (F : Nat) : List (Nat × LoopFn) := [(0, spec_l24Ok_l0 F)]
noncomputable def E_spec_l24Ok (F : Nat) : Env := (E_spec_l24One F).ext (en_spec_l24Ok F)
noncomputable def en_spec_l26Kind (F : Nat) : Entry := ⟨162, [(.int .i64)], [(.bool, .no)], fun x => spec_l26Kind F x.1⟩
noncomputable def ls_spec_l26Kind (F : Nat) : List (Nat × LoopFn) := []
noncomputable def E_spec_l26Kind (F : Nat) : Env := (E_spec_l24Ok F).ext (en_spec_l26Kind F)
noncomputable def en_spec_l14Airway (F : Nat) : Entry := ⟨163, [(.int .i64)], [(.bool, .no)], fun x => spec_l14Airway F x.1⟩
noncomputable def ls_spec_l14Airway (F : Nat) : List (Nat × LoopFn) := []
noncomputable def E_spec_l14Airway (F : Nat) : Env := (E_spec_l26Kind F).ext (en_spec_l14Airway F)
noncomputable def en_spec_l26One (F : Nat) : Entry := ⟨133, [(.ptr Tsiiii)], [(.bool, .no)], fun x => spec_l26One F x.1⟩
noncomputable def ls_spec_l26One (F : Nat) : List (Nat × LoopFn) := []
noncomputable def E_spec_l26One (F : Nat) : Env := (E_spec_l14Airway F).ext (en_spec_l26One F)
noncomputable def en_spec_l26Ok (F : Nat) : Entry := ⟨91, [(.ptr TiSqsiiiiiip), (.sl Tsiiii)], [(.bool, .no)], fun x => spec_l26Ok F x.1 x.2.1⟩
noncomputable def ls_spec_l26Ok (F : Nat) : List (Nat × LoopFn) := [(0, spec_l26Ok_l0 F)]
noncomputable def E_spec_l26Ok (F : Nat) : Env := (E_spec_l26One F).ext (en_spec_l26Ok F)
noncomputable def en_spec_l28Day (F : Nat) : Entry := ⟨164, [(.int .i64)], [(.bool, .no)], fun x => spec_l28Day F x.1⟩
noncomputable def ls_spec_l28Day (F : Nat) : List (Nat × LoopFn) := []
noncomputable def E_spec_l28Day (F : Nat) : Env := (E_spec_l26Ok F).ext (en_spec_l28Day F)
noncomputable def en_spec_l28One (F : Nat) : Entry := ⟨134, [(.ptr Tisiii)], [(.bool, .no)], fun x => spec_l28One F x.1⟩
noncomputable def ls_spec_l28One (F : Nat) : List (Nat × LoopFn) := []
noncomputable def E_spec_l28One (F : Nat) : Env := (E_spec_l28Day F).ext (en_spec_l28One F)
noncomputable def en_spec_l28Before (F : Nat) : Entry := ⟨135, [(.ptr Tisiii), (.ptr Tisiii)], [(.bool, .no)], fun x => spec_l28Before F x.1 x.2.1⟩
noncomputable def ls_spec_l28Before (F : Nat) : List (Nat × LoopFn) := []
noncomputable def E_spec_l28Before (F : Nat) : Env := (E_spec_l28One F).ext (en_spec_l28Before F)
noncomputable def en_spec_l28Ok (F : Nat) : Entry := ⟨92, [(.sl Tisiii)], [(.bool, .no)], fun x => spec_l28Ok F x.1⟩
noncomputable def ls_spec_l28Ok (F : Nat) : List (Nat × LoopFn) := [(0, spec_l28Ok_l0 F)]
noncomputable def E_spec_l28Ok (F : Nat) : Env := (E_spec_l28Before F).ext (en_spec_l28Ok F)
noncomputable def en_spec_l32Ok (F : Nat) : Entry := ⟨44, [(.ptr T5d55a700)], [(.bool, .no)], fun x => spec_l32Ok F x.1⟩
noncomputable def ls_spec_l32Ok (F : Nat) : List (Nat × LoopFn) := []
noncomputable def E_spec_l32Ok (F : Nat) : Env := (E_spec_l28Ok F).ext (en_spec_l32Ok F)
noncomputable def en_spec_l01Dec (F : Nat) : Entry := ⟨45, [(.int .i64)], [(.str, .no)], fun x => spec_l01Dec F x.1⟩
noncomputable def ls_spec_l01Dec (F : Nat) : List (Nat × LoopFn) := [(0, spec_l01Dec_l0 F), (2, spec_l01Dec_l1 F)]
noncomputable def E_spec_l01Dec (F : Nat) : Env := (E_spec_l32Ok F).ext (en_spec_l01Dec F)
noncomputable def en_spec_DeskReport (F : Nat) : Entry := ⟨15, [T5d55a700], [((.sl .str), (.own none .no)), ((.int .i64), .no)], fun x => spec_DeskReport F x.1⟩
noncomputable def ls_spec_DeskReport (F : Nat) : List (Nat × LoopFn) := [(0, spec_DeskReport_l0 F)]
noncomputable def E_spec_DeskReport (F : Nat) : Env := (E_spec_l01Dec F).ext (en_spec_DeskReport F)
noncomputable def en_impl_within (F : Nat) : Entry := ⟨29, [(.int .i64), (.int .i64), (.int .i64)], [(.bool, .no)], fun x => impl_within F x.1 x.2.1 x.2.2.1⟩
noncomputable def ls_impl_within (F : Nat) : List (Nat × LoopFn) := []
noncomputable def E_impl_within (F : Nat) : Env := (E_spec_DeskReport F).ext (en_impl_within F)
noncomputable def en_impl_onlyNameBytes (F : Nat) : Entry := ⟨152, [.str], [(.bool, .no)], fun x => impl_onlyNameBytes F x.1⟩
noncomputable def ls_impl_onlyNameBytes (F : Nat) : List (Nat × LoopFn) := [(0, impl_onlyNameBytes_l0 F)]
noncomputable def E_impl_onlyNameBytes (F : Nat) : Env := (E_impl_within F).ext (en_impl_onlyNameBytes F)
noncomputable def en_impl_IsName (F : Nat) : Entry := ⟨117, [.str], [(.bool, .no)], fun x => impl_IsName F x.1⟩
noncomputable def ls_impl_IsName (F : Nat) : List (Nat × LoopFn) := []
noncomputable def E_impl_IsName (F : Nat) : Env := (E_impl_onlyNameBytes F).ext (en_impl_IsName F)
noncomputable def en_impl_junctionOk (F : Nat) : Entry := ⟨159, [(.int .i64)], [(.bool, .no)], fun x => impl_junctionOk F x.1⟩
noncomputable def ls_impl_junctionOk (F : Nat) : List (Nat × LoopFn) := []
noncomputable def E_impl_junctionOk (F : Nat) : Env := (E_impl_IsName F).ext (en_impl_junctionOk F)
noncomputable def en_impl_ValidAirway (F : Nat) : Entry := ⟨123, [Tsiiiiii], [(.bool, .no)], fun x => impl_ValidAirway F x.1⟩
noncomputable def ls_impl_ValidAirway (F : Nat) : List (Nat × LoopFn) := []
noncomputable def E_impl_ValidAirway (F : Nat) : Env := (E_impl_junctionOk F).ext (en_impl_ValidAirway F)
noncomputable def en_impl_Mine_hasJunction (F : Nat) : Entry := ⟨76, [TiSqsiiiiiip, (.int .i64)], [(.bool, .no)], fun x => impl_Mine_hasJunction F x.1 x.2.1⟩
noncomputable def ls_impl_Mine_hasJunction (F : Nat) : List (Nat × LoopFn) := []
noncomputable def E_impl_Mine_hasJunction (F : Nat) : Env := (E_impl_ValidAirway F).ext (en_impl_Mine_hasJunction F)
noncomputable def en_impl_Mine_hasEnds (F : Nat) : Entry := ⟨31, [TiSqsiiiiiip, Tsiiiiii], [(.bool, .no)], fun x => impl_Mine_hasEnds F x.1 x.2.1⟩
noncomputable def ls_impl_Mine_hasEnds (F : Nat) : List (Nat × LoopFn) := []
noncomputable def E_impl_Mine_hasEnds (F : Nat) : Env := (E_impl_Mine_hasJunction F).ext (en_impl_Mine_hasEnds F)
noncomputable def en_impl_ValidMine (F : Nat) : Entry := ⟨99, [TiSqsiiiiiip], [(.bool, .no)], fun x => impl_ValidMine F x.1⟩
noncomputable def ls_impl_ValidMine (F : Nat) : List (Nat × LoopFn) := [(0, impl_ValidMine_l0 F)]
noncomputable def E_impl_ValidMine (F : Nat) : Env := (E_impl_Mine_hasEnds F).ext (en_impl_ValidMine F)
noncomputable def en_impl_allWithin_1 (F : Nat) : Entry := ⟨166, [(.int .i64), (.ptr (.int .i64)), (.ptr (.int .i64))], [(.bool, .no)], fun x => impl_allWithin_1 F x.1 x.2.1 x.2.2.1⟩
noncomputable def ls_impl_allWithin_1 (F : Nat) : List (Nat × LoopFn) := []
noncomputable def E_impl_allWithin_1 (F : Nat) : Env := (E_impl_ValidMine F).ext (en_impl_allWithin_1 F)
noncomputable def en_slices_IndexFunc_Sint64_int64 (F : Nat) : Entry := ⟨179, [(.sl (.int .i64)), (.fn 166 (.prod (.ptr (.int .i64)) (.prod (.ptr (.int .i64)) .unit)))], [((.int .i64), .no)], fun x => slices_IndexFunc_Sint64_int64 F x.1 x.2.1⟩
noncomputable def ls_slices_IndexFunc_Sint64_int64 (F : Nat) : List (Nat × LoopFn) := [(0, slices_IndexFunc_Sint64_int64_l0 F)]
noncomputable def E_slices_IndexFunc_Sint64_int64 (F : Nat) : Env := (E_impl_allWithin_1 F).ext (en_slices_IndexFunc_Sint64_int64 F)
noncomputable def en_slices_ContainsFunc_Sint64_int64 (F : Nat) : Entry := ⟨165, [(.sl (.int .i64)), (.fn 166 (.prod (.ptr (.int .i64)) (.prod (.ptr (.int .i64)) .unit)))], [(.bool, .no)], fun x => slices_ContainsFunc_Sint64_int64 F x.1 x.2.1⟩
noncomputable def ls_slices_ContainsFunc_Sint64_int64 (F : Nat) : List (Nat × LoopFn) := []
noncomputable def E_slices_ContainsFunc_Sint64_int64 (F : Nat) : Env := (E_slices_IndexFunc_Sint64_int64 F).ext (en_slices_ContainsFunc_Sint64_int64 F)
noncomputable def en_impl_allWithin (F : Nat) : Entry := ⟨138, [(.sl (.int .i64)), (.int .i64), (.int .i64)], [(.bool, .no)], fun x => impl_allWithin F x.1 x.2.1 x.2.2.1⟩
noncomputable def ls_impl_allWithin (F : Nat) : List (Nat × LoopFn) := []
noncomputable def E_impl_allWithin (F : Nat) : Env := (E_slices_ContainsFunc_Sint64_int64 F).ext (en_impl_allWithin F)
noncomputable def en_impl_Mine_hasList (F : Nat) : Entry := ⟨100, [TiSqsiiiiiip, (.sl (.int .i64)), (.int .i64), (.int .i64)], [(.bool, .no)], fun x => impl_Mine_hasList F x.1 x.2.1 x.2.2.1 x.2.2.2.1⟩
noncomputable def ls_impl_Mine_hasList (F : Nat) : List (Nat × LoopFn) := []
noncomputable def E_impl_Mine_hasList (F : Nat) : Env := (E_impl_allWithin F).ext (en_impl_Mine_hasList F)
noncomputable def en_impl_Mine_hasFlows (F : Nat) : Entry := ⟨101, [TiSqsiiiiiip, (.sl (.int .i64))], [(.bool, .no)], fun x => impl_Mine_hasFlows F x.1 x.2.1⟩
noncomputable def ls_impl_Mine_hasFlows (F : Nat) : List (Nat × LoopFn) := []
noncomputable def E_impl_Mine_hasFlows (F : Nat) : Env := (E_impl_Mine_hasList F).ext (en_impl_Mine_hasFlows F)
noncomputable def en_impl_ValidFan (F : Nat) : Entry := ⟨139, [TsiSSi], [(.bool, .no)], fun x => impl_ValidFan F x.1⟩
noncomputable def ls_impl_ValidFan (F : Nat) : List (Nat × LoopFn) := [(0, impl_ValidFan_l0 F)]
noncomputable def E_impl_ValidFan (F : Nat) : Env := (E_impl_Mine_hasFlows F).ext (en_impl_ValidFan F)
noncomputable def en_impl_ValidFans (F : Nat) : Entry := ⟨102, [(.sl TsiSSi)], [(.bool, .no)], fun x => impl_ValidFans F x.1⟩
noncomputable def ls_impl_ValidFans (F : Nat) : List (Nat × LoopFn) := [(0, impl_ValidFans_l0 F)]
noncomputable def E_impl_ValidFans (F : Nat) : Env := (E_impl_ValidFan F).ext (en_impl_ValidFans F)
noncomputable def en_impl_indexValid_Airway (F : Nat) : Entry := ⟨142, [(.sl Tsiiiiii), (.int .i64)], [(.bool, .no)], fun x => impl_indexValid_Airway F x.1 x.2.1⟩
noncomputable def ls_impl_indexValid_Airway (F : Nat) : List (Nat × LoopFn) := []
noncomputable def E_impl_indexValid_Airway (F : Nat) : Env := (E_impl_ValidFans F).ext (en_impl_indexValid_Airway F)
noncomputable def en_impl_Mine_hasFans_1 (F : Nat) : Entry := ⟨141, [TsiSSi, (.ptr TiSqsiiiiiip)], [(.bool, .no)], fun x => impl_Mine_hasFans_1 F x.1 x.2.1⟩
noncomputable def ls_impl_Mine_hasFans_1 (F : Nat) : List (Nat × LoopFn) := []
noncomputable def E_impl_Mine_hasFans_1 (F : Nat) : Env := (E_impl_indexValid_Airway F).ext (en_impl_Mine_hasFans_1 F)
noncomputable def en_slices_IndexFunc_SFan_Fan (F : Nat) : Entry := ⟨167, [(.sl TsiSSi), (.fn 141 (.prod (.ptr TiSqsiiiiiip) .unit))], [((.int .i64), .no)], fun x => slices_IndexFunc_SFan_Fan F x.1 x.2.1⟩
noncomputable def ls_slices_IndexFunc_SFan_Fan (F : Nat) : List (Nat × LoopFn) := [(0, slices_IndexFunc_SFan_Fan_l0 F)]
noncomputable def E_slices_IndexFunc_SFan_Fan (F : Nat) : Env := (E_impl_Mine_hasFans_1 F).ext (en_slices_IndexFunc_SFan_Fan F)
noncomputable def en_slices_ContainsFunc_SFan_Fan (F : Nat) : Entry := ⟨140, [(.sl TsiSSi), (.fn 141 (.prod (.ptr TiSqsiiiiiip) .unit))], [(.bool, .no)], fun x => slices_ContainsFunc_SFan_Fan F x.1 x.2.1⟩
noncomputable def ls_slices_ContainsFunc_SFan_Fan (F : Nat) : List (Nat × LoopFn) := []
noncomputable def E_slices_ContainsFunc_SFan_Fan (F : Nat) : Env := (E_slices_IndexFunc_SFan_Fan F).ext (en_slices_ContainsFunc_SFan_Fan F)
noncomputable def en_impl_Mine_hasFans (F : Nat) : Entry := ⟨103, [TiSqsiiiiiip, (.sl TsiSSi)], [(.bool, .no)], fun x => impl_Mine_hasFans F x.1 x.2.1⟩
noncomputable def ls_impl_Mine_hasFans (F : Nat) : List (Nat × LoopFn) := []
noncomputable def E_impl_Mine_hasFans (F : Nat) : Env := (E_slices_ContainsFunc_SFan_Fan F).ext (en_impl_Mine_hasFans F)
noncomputable def en_impl_Refuge_valid (F : Nat) : Entry := ⟨143, [Tsiii], [(.bool, .no)], fun x => impl_Refuge_valid F x.1⟩
noncomputable def ls_impl_Refuge_valid (F : Nat) : List (Nat × LoopFn) := []
noncomputable def E_impl_Refuge_valid (F : Nat) : Env := (E_impl_Mine_hasFans F).ext (en_impl_Refuge_valid F)
noncomputable def en_impl_ValidRefuges (F : Nat) : Entry := ⟨104, [TiSqsiiiiiip, (.sl Tsiii)], [(.bool, .no)], fun x => impl_ValidRefuges F x.1 x.2.1⟩
noncomputable def ls_impl_ValidRefuges (F : Nat) : List (Nat × LoopFn) := [(0, impl_ValidRefuges_l0 F)]
noncomputable def E_impl_ValidRefuges (F : Nat) : Env := (E_impl_Refuge_valid F).ext (en_impl_ValidRefuges F)
noncomputable def en_impl_ValidSensor (F : Nat) : Entry := ⟨144, [Tsiiii], [(.bool, .no)], fun x => impl_ValidSensor F x.1⟩
noncomputable def ls_impl_ValidSensor (F : Nat) : List (Nat × LoopFn) := []
noncomputable def E_impl_ValidSensor (F : Nat) : Env := (E_impl_ValidRefuges F).ext (en_impl_ValidSensor F)
noncomputable def en_impl_ValidSensors (F : Nat) : Entry := ⟨105, [(.sl Tsiiii)], [(.bool, .no)], fun x => impl_ValidSensors F x.1⟩
noncomputable def ls_impl_ValidSensors (F : Nat) : List (Nat × LoopFn) := [(0, impl_ValidSensors_l0 F)]
noncomputable def E_impl_ValidSensors (F : Nat) : Env := (E_impl_ValidSensor F).ext (en_impl_ValidSensors F)
noncomputable def en_impl_kindOk (F : Nat) : Entry := ⟨168, [(.int .i64)], [(.bool, .no)], fun x => impl_kindOk F x.1⟩
noncomputable def ls_impl_kindOk (F : Nat) : List (Nat × LoopFn) := []
noncomputable def E_impl_kindOk (F : Nat) : Env := (E_impl_ValidSensors F).ext (en_impl_kindOk F)
noncomputable def en_impl_Permit_valid (F : Nat) : Entry := ⟨145, [Tsiiii], [(.bool, .no)], fun x => impl_Permit_valid F x.1⟩
noncomputable def ls_impl_Permit_valid (F : Nat) : List (Nat × LoopFn) := []
noncomputable def E_impl_Permit_valid (F : Nat) : Env := (E_impl_kindOk F).ext (en_impl_Permit_valid F)
noncomputable def en_impl_ValidPermits (F : Nat) : Entry := ⟨106, [TiSqsiiiiiip, (.sl Tsiiii)], [(.bool, .no)], fun x => impl_ValidPermits F x.1 x.2.1⟩
noncomputable def ls_impl_ValidPermits (F : Nat) : List (Nat × LoopFn) := [(0, impl_ValidPermits_l0 F)]
noncomputable def E_impl_ValidPermits (F : Nat) : Env := (E_impl_Permit_valid F).ext (en_impl_ValidPermits F)
noncomputable def en_impl_Drill_valid (F : Nat) : Entry := ⟨146, [Tisiii], [(.bool, .no)], fun x => impl_Drill_valid F x.1⟩
noncomputable def ls_impl_Drill_valid (F : Nat) : List (Nat × LoopFn) := []
noncomputable def E_impl_Drill_valid (F : Nat) : Env := (E_impl_ValidPermits F).ext (en_impl_Drill_valid F)
noncomputable def en_cmp_isNaN_int64 (F : Nat) : Entry := ⟨180, [(.int .i64)], [(.bool, .no)], fun x => cmp_isNaN_int64 F x.1⟩
noncomputable def ls_cmp_isNaN_int64 (F : Nat) : List (Nat × LoopFn) := []
noncomputable def E_cmp_isNaN_int64 (F : Nat) : Env := (E_impl_Drill_valid F).ext (en_cmp_isNaN_int64 F)
noncomputable def en_cmp_Compare_int64 (F : Nat) : Entry := ⟨169, [(.int .i64), (.int .i64)], [((.int .i64), .no)], fun x => cmp_Compare_int64 F x.1 x.2.1⟩
noncomputable def ls_cmp_Compare_int64 (F : Nat) : List (Nat × LoopFn) := []
noncomputable def E_cmp_Compare_int64 (F : Nat) : Env := (E_cmp_isNaN_int64 F).ext (en_cmp_Compare_int64 F)
noncomputable def en_cmp_isNaN_string (F : Nat) : Entry := ⟨154, [.str], [(.bool, .no)], fun x => cmp_isNaN_string F x.1⟩
noncomputable def ls_cmp_isNaN_string (F : Nat) : List (Nat × LoopFn) := []
noncomputable def E_cmp_isNaN_string (F : Nat) : Env := (E_cmp_Compare_int64 F).ext (en_cmp_isNaN_string F)
noncomputable def en_cmp_Compare_string (F : Nat) : Entry := ⟨120, [.str, .str], [((.int .i64), .no)], fun x => cmp_Compare_string F x.1 x.2.1⟩
noncomputable def ls_cmp_Compare_string (F : Nat) : List (Nat × LoopFn) := []
noncomputable def E_cmp_Compare_string (F : Nat) : Env := (E_cmp_isNaN_string F).ext (en_cmp_Compare_string F)
noncomputable def en_cmp_Or_int (F : Nat) : Entry := ⟨119, [(.sl (.int .i64))], [((.int .i64), .no)], fun x => cmp_Or_int F x.1⟩
noncomputable def ls_cmp_Or_int (F : Nat) : List (Nat × LoopFn) := [(0, cmp_Or_int_l0 F)]
noncomputable def E_cmp_Or_int (F : Nat) : Env := (E_cmp_Compare_string F).ext (en_cmp_Or_int F)
noncomputable def en_impl_compareDrills (F : Nat) : Entry := ⟨147, [Tisiii, Tisiii], [((.int .i64), .no)], fun x => impl_compareDrills F x.1 x.2.1⟩
noncomputable def ls_impl_compareDrills (F : Nat) : List (Nat × LoopFn) := []
noncomputable def E_impl_compareDrills (F : Nat) : Env := (E_cmp_Or_int F).ext (en_impl_compareDrills F)
noncomputable def en_impl_ValidDrills (F : Nat) : Entry := ⟨107, [(.sl Tisiii)], [(.bool, .no)], fun x => impl_ValidDrills F x.1⟩
noncomputable def ls_impl_ValidDrills (F : Nat) : List (Nat × LoopFn) := [(0, impl_ValidDrills_l0 F)]
noncomputable def E_impl_ValidDrills (F : Nat) : Env := (E_impl_compareDrills F).ext (en_impl_ValidDrills F)
noncomputable def en_impl_ValidDesk (F : Nat) : Entry := ⟨53, [T5d55a700], [(.bool, .no)], fun x => impl_ValidDesk F x.1⟩
noncomputable def ls_impl_ValidDesk (F : Nat) : List (Nat × LoopFn) := []
noncomputable def E_impl_ValidDesk (F : Nat) : Env := (E_impl_ValidDrills F).ext (en_impl_ValidDesk F)
noncomputable def en_strconv_FormatInt (F : Nat) : Entry := ⟨108, [(.int .i64), (.int .i64)], [(.str, .no)], fun x => libFormatInt x.1 x.2.1⟩
noncomputable def E_strconv_FormatInt (F : Nat) : Env := (E_impl_ValidDesk F).ext (en_strconv_FormatInt F)
noncomputable def en_impl_Decimal (F : Nat) : Entry := ⟨54, [(.int .i64)], [(.str, .no)], fun x => impl_Decimal F x.1⟩
noncomputable def ls_impl_Decimal (F : Nat) : List (Nat × LoopFn) := []
noncomputable def E_impl_Decimal (F : Nat) : Env := (E_strconv_FormatInt F).ext (en_impl_Decimal F)
noncomputable def en_impl_DeskReport (F : Nat) : Entry := ⟨17, [T5d55a700], [((.sl .str), (.own none .no)), ((.int .i64), .no)], fun x => impl_DeskReport F x.1⟩
noncomputable def ls_impl_DeskReport (F : Nat) : List (Nat × LoopFn) := []
noncomputable def E_impl_DeskReport (F : Nat) : Env := (E_impl_Decimal F).ext (en_impl_DeskReport F)
noncomputable def en_laws_eqStringS (F : Nat) : Entry := ⟨18, [(.sl .str), (.sl .str)], [(.bool, .no)], fun x => laws_eqStringS F x.1 x.2.1⟩
noncomputable def ls_laws_eqStringS (F : Nat) : List (Nat × LoopFn) := [(0, laws_eqStringS_l0 F)]
noncomputable def E_laws_eqStringS (F : Nat) : Env := (E_impl_DeskReport F).ext (en_laws_eqStringS F)
noncomputable def en_laws_eqAirway (F : Nat) : Entry := ⟨77, [Tsiiiiii, Tsiiiiii], [(.bool, .no)], fun x => laws_eqAirway F x.1 x.2.1⟩
noncomputable def ls_laws_eqAirway (F : Nat) : List (Nat × LoopFn) := []
noncomputable def E_laws_eqAirway (F : Nat) : Env := (E_laws_eqStringS F).ext (en_laws_eqAirway F)
noncomputable def en_laws_eqAirwayS (F : Nat) : Entry := ⟨32, [(.sl Tsiiiiii), (.sl Tsiiiiii)], [(.bool, .no)], fun x => laws_eqAirwayS F x.1 x.2.1⟩
noncomputable def ls_laws_eqAirwayS (F : Nat) : List (Nat × LoopFn) := [(0, laws_eqAirwayS_l0 F)]
noncomputable def E_laws_eqAirwayS (F : Nat) : Env := (E_laws_eqAirway F).ext (en_laws_eqAirwayS F)
noncomputable def en_laws_eqMine (F : Nat) : Entry := ⟨9, [TiSqsiiiiiip, TiSqsiiiiiip], [(.bool, .no)], fun x => laws_eqMine F x.1 x.2.1⟩
noncomputable def ls_laws_eqMine (F : Nat) : List (Nat × LoopFn) := []
noncomputable def E_laws_eqMine (F : Nat) : Env := (E_laws_eqAirwayS F).ext (en_laws_eqMine F)
noncomputable def en_laws_eqInt64S (F : Nat) : Entry := ⟨55, [(.sl (.int .i64)), (.sl (.int .i64))], [(.bool, .no)], fun x => laws_eqInt64S F x.1 x.2.1⟩
noncomputable def ls_laws_eqInt64S (F : Nat) : List (Nat × LoopFn) := [(0, laws_eqInt64S_l0 F)]
noncomputable def E_laws_eqInt64S (F : Nat) : Env := (E_laws_eqMine F).ext (en_laws_eqInt64S F)
noncomputable def en_laws_eqInt64SS (F : Nat) : Entry := ⟨149, [(.sl (.sl (.int .i64))), (.sl (.sl (.int .i64)))], [(.bool, .no)], fun x => laws_eqInt64SS F x.1 x.2.1⟩
noncomputable def ls_laws_eqInt64SS (F : Nat) : List (Nat × LoopFn) := [(0, laws_eqInt64SS_l0 F)]
noncomputable def E_laws_eqInt64SS (F : Nat) : Env := (E_laws_eqInt64S F).ext (en_laws_eqInt64SS F)
noncomputable def en_laws_eqFan (F : Nat) : Entry := ⟨109, [TsiSSi, TsiSSi], [(.bool, .no)], fun x => laws_eqFan F x.1 x.2.1⟩
noncomputable def ls_laws_eqFan (F : Nat) : List (Nat × LoopFn) := []
noncomputable def E_laws_eqFan (F : Nat) : Env := (E_laws_eqInt64SS F).ext (en_laws_eqFan F)
noncomputable def en_laws_eqFanS (F : Nat) : Entry := ⟨56, [(.sl TsiSSi), (.sl TsiSSi)], [(.bool, .no)], fun x => laws_eqFanS F x.1 x.2.1⟩
noncomputable def ls_laws_eqFanS (F : Nat) : List (Nat × LoopFn) := [(0, laws_eqFanS_l0 F)]
noncomputable def E_laws_eqFanS (F : Nat) : Env := (E_laws_eqFan F).ext (en_laws_eqFanS F)
noncomputable def en_laws_eqRefuge (F : Nat) : Entry := ⟨110, [Tsiii, Tsiii], [(.bool, .no)], fun x => laws_eqRefuge F x.1 x.2.1⟩
noncomputable def ls_laws_eqRefuge (F : Nat) : List (Nat × LoopFn) := []
noncomputable def E_laws_eqRefuge (F : Nat) : Env := (E_laws_eqFanS F).ext (en_laws_eqRefuge F)
noncomputable def en_laws_eqRefugeS (F : Nat) : Entry := ⟨57, [(.sl Tsiii), (.sl Tsiii)], [(.bool, .no)], fun x => laws_eqRefugeS F x.1 x.2.1⟩
noncomputable def ls_laws_eqRefugeS (F : Nat) : List (Nat × LoopFn) := [(0, laws_eqRefugeS_l0 F)]
noncomputable def E_laws_eqRefugeS (F : Nat) : Env := (E_laws_eqRefuge F).ext (en_laws_eqRefugeS F)
noncomputable def en_laws_eqSensor (F : Nat) : Entry := ⟨111, [Tsiiii, Tsiiii], [(.bool, .no)], fun x => laws_eqSensor F x.1 x.2.1⟩
noncomputable def ls_laws_eqSensor (F : Nat) : List (Nat × LoopFn) := []
noncomputable def E_laws_eqSensor (F : Nat) : Env := (E_laws_eqRefugeS F).ext (en_laws_eqSensor F)
noncomputable def en_laws_eqSensorS (F : Nat) : Entry := ⟨58, [(.sl Tsiiii), (.sl Tsiiii)], [(.bool, .no)], fun x => laws_eqSensorS F x.1 x.2.1⟩
noncomputable def ls_laws_eqSensorS (F : Nat) : List (Nat × LoopFn) := [(0, laws_eqSensorS_l0 F)]
noncomputable def E_laws_eqSensorS (F : Nat) : Env := (E_laws_eqSensor F).ext (en_laws_eqSensorS F)
noncomputable def en_laws_eqPermit (F : Nat) : Entry := ⟨112, [Tsiiii, Tsiiii], [(.bool, .no)], fun x => laws_eqPermit F x.1 x.2.1⟩
noncomputable def ls_laws_eqPermit (F : Nat) : List (Nat × LoopFn) := []
noncomputable def E_laws_eqPermit (F : Nat) : Env := (E_laws_eqSensorS F).ext (en_laws_eqPermit F)
noncomputable def en_laws_eqPermitS (F : Nat) : Entry := ⟨59, [(.sl Tsiiii), (.sl Tsiiii)], [(.bool, .no)], fun x => laws_eqPermitS F x.1 x.2.1⟩
noncomputable def ls_laws_eqPermitS (F : Nat) : List (Nat × LoopFn) := [(0, laws_eqPermitS_l0 F)]
noncomputable def E_laws_eqPermitS (F : Nat) : Env := (E_laws_eqPermit F).ext (en_laws_eqPermitS F)
noncomputable def en_laws_eqDrill (F : Nat) : Entry := ⟨113, [Tisiii, Tisiii], [(.bool, .no)], fun x => laws_eqDrill F x.1 x.2.1⟩
noncomputable def ls_laws_eqDrill (F : Nat) : List (Nat × LoopFn) := []
noncomputable def E_laws_eqDrill (F : Nat) : Env := (E_laws_eqPermitS F).ext (en_laws_eqDrill F)
noncomputable def en_laws_eqDrillS (F : Nat) : Entry := ⟨60, [(.sl Tisiii), (.sl Tisiii)], [(.bool, .no)], fun x => laws_eqDrillS F x.1 x.2.1⟩
noncomputable def ls_laws_eqDrillS (F : Nat) : List (Nat × LoopFn) := [(0, laws_eqDrillS_l0 F)]
noncomputable def E_laws_eqDrillS (F : Nat) : Env := (E_laws_eqDrill F).ext (en_laws_eqDrillS F)
noncomputable def en_laws_eqDesk (F : Nat) : Entry := ⟨19, [T5d55a700, T5d55a700], [(.bool, .no)], fun x => laws_eqDesk F x.1 x.2.1⟩
noncomputable def ls_laws_eqDesk (F : Nat) : List (Nat × LoopFn) := []
noncomputable def E_laws_eqDesk (F : Nat) : Env := (E_laws_eqDrillS F).ext (en_laws_eqDesk F)
noncomputable def en_laws_markText (F : Nat) : Entry := ⟨34, [(.int .i64)], [(.str, .no)], fun x => laws_markText F x.1⟩
noncomputable def ls_laws_markText (F : Nat) : List (Nat × LoopFn) := [(0, laws_markText_l0 F)]
noncomputable def E_laws_markText (F : Nat) : Env := (E_laws_eqDesk F).ext (en_laws_markText F)
noncomputable def en_laws_markAirwayS (F : Nat) : EntryW := ⟨35, (.sl Tsiiiiii), [(.int .i64)], [((.int .i64), .no)], fun x a => laws_markAirwayS F x a.1⟩
noncomputable def ls_laws_markAirwayS (F : Nat) : List (Nat × LoopFn) := [(0, laws_markAirwayS_l0 F)]
noncomputable def E_laws_markAirwayS (F : Nat) : Env := (E_laws_markText F).extW (en_laws_markAirwayS F)
noncomputable def en_laws_markMine (F : Nat) : EntryW := ⟨12, TiSqsiiiiiip, [(.int .i64)], [((.int .i64), .no)], fun x a => laws_markMine F x a.1⟩
noncomputable def ls_laws_markMine (F : Nat) : List (Nat × LoopFn) := []
noncomputable def E_laws_markMine (F : Nat) : Env := (E_laws_markAirwayS F).extW (en_laws_markMine F)
noncomputable def en_laws_markInt64S (F : Nat) : EntryW := ⟨61, (.sl (.int .i64)), [(.int .i64)], [((.int .i64), .no)], fun x a => laws_markInt64S F x a.1⟩
noncomputable def ls_laws_markInt64S (F : Nat) : List (Nat × LoopFn) := [(0, laws_markInt64S_l0 F)]
noncomputable def E_laws_markInt64S (F : Nat) : Env := (E_laws_markMine F).extW (en_laws_markInt64S F)
noncomputable def en_laws_markInt64SS (F : Nat) : EntryW := ⟨114, (.sl (.sl (.int .i64))), [(.int .i64)], [((.int .i64), .no)], fun x a => laws_markInt64SS F x a.1⟩
noncomputable def ls_laws_markInt64SS (F : Nat) : List (Nat × LoopFn) := [(0, laws_markInt64SS_l0 F)]
noncomputable def E_laws_markInt64SS (F : Nat) : Env := (E_laws_markInt64S F).extW (en_laws_markInt64SS F)
noncomputable def en_laws_markFanS (F : Nat) : EntryW := ⟨62, (.sl TsiSSi), [(.int .i64)], [((.int .i64), .no)], fun x a => laws_markFanS F x a.1⟩
noncomputable def ls_laws_markFanS (F : Nat) : List (Nat × LoopFn) := [(0, laws_markFanS_l0 F)]
noncomputable def E_laws_markFanS (F : Nat) : Env := (E_laws_markInt64SS F).extW (en_laws_markFanS F)
noncomputable def en_laws_markRefugeS (F : Nat) : EntryW := ⟨63, (.sl Tsiii), [(.int .i64)], [((.int .i64), .no)], fun x a => laws_markRefugeS F x a.1⟩
noncomputable def ls_laws_markRefugeS (F : Nat) : List (Nat × LoopFn) := [(0, laws_markRefugeS_l0 F)]
noncomputable def E_laws_markRefugeS (F : Nat) : Env := (E_laws_markFanS F).extW (en_laws_markRefugeS F)
noncomputable def en_laws_markSensorS (F : Nat) : EntryW := ⟨64, (.sl Tsiiii), [(.int .i64)], [((.int .i64), .no)], fun x a => laws_markSensorS F x a.1⟩
noncomputable def ls_laws_markSensorS (F : Nat) : List (Nat × LoopFn) := [(0, laws_markSensorS_l0 F)]
noncomputable def E_laws_markSensorS (F : Nat) : Env := (E_laws_markRefugeS F).extW (en_laws_markSensorS F)
noncomputable def en_laws_markPermitS (F : Nat) : EntryW := ⟨65, (.sl Tsiiii), [(.int .i64)], [((.int .i64), .no)], fun x a => laws_markPermitS F x a.1⟩
noncomputable def ls_laws_markPermitS (F : Nat) : List (Nat × LoopFn) := [(0, laws_markPermitS_l0 F)]
noncomputable def E_laws_markPermitS (F : Nat) : Env := (E_laws_markSensorS F).extW (en_laws_markPermitS F)
noncomputable def en_laws_markDrillS (F : Nat) : EntryW := ⟨66, (.sl Tisiii), [(.int .i64)], [((.int .i64), .no)], fun x a => laws_markDrillS F x a.1⟩
noncomputable def ls_laws_markDrillS (F : Nat) : List (Nat × LoopFn) := [(0, laws_markDrillS_l0 F)]
noncomputable def E_laws_markDrillS (F : Nat) : Env := (E_laws_markPermitS F).extW (en_laws_markDrillS F)
noncomputable def en_laws_markDesk (F : Nat) : EntryW := ⟨20, T5d55a700, [(.int .i64)], [((.int .i64), .no)], fun x a => laws_markDesk F x a.1⟩
noncomputable def ls_laws_markDesk (F : Nat) : List (Nat × LoopFn) := []
noncomputable def E_laws_markDesk (F : Nat) : Env := (E_laws_markDrillS F).extW (en_laws_markDesk F)
noncomputable def en_laws_markStringS (F : Nat) : EntryW := ⟨21, (.sl .str), [(.int .i64)], [((.int .i64), .no)], fun x a => laws_markStringS F x a.1⟩
noncomputable def ls_laws_markStringS (F : Nat) : List (Nat × LoopFn) := [(0, laws_markStringS_l0 F)]
noncomputable def E_laws_markStringS (F : Nat) : Env := (E_laws_markDesk F).extW (en_laws_markStringS F)
noncomputable def en_laws_heldStringS (F : Nat) : Entry := ⟨22, [(.sl .str), (.int .i64)], [((.int .i64), .no)], fun x => laws_heldStringS F x.1 x.2.1⟩
noncomputable def ls_laws_heldStringS (F : Nat) : List (Nat × LoopFn) := [(0, laws_heldStringS_l0 F)]
noncomputable def E_laws_heldStringS (F : Nat) : Env := (E_laws_markStringS F).ext (en_laws_heldStringS F)
noncomputable def en_laws_FnExactDeskReport (F : Nat) : Entry := ⟨4, [T5d55a700], [(.bool, .no)], fun x => laws_FnExactDeskReport F x.1⟩
noncomputable def ls_laws_FnExactDeskReport (F : Nat) : List (Nat × LoopFn) := []
noncomputable def E_laws_FnExactDeskReport (F : Nat) : Env := (E_laws_heldStringS F).ext (en_laws_FnExactDeskReport F)
end Go.Ev.Z
