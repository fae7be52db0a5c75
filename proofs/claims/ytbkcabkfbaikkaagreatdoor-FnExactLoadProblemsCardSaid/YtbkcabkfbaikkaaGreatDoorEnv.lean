/- A part of the proof: lemmas that the law's theorem uses; their conditions stand in each theorem. -/
import Derived.Test.YtbkcabkfbaikkaaGreatDoorDefsB
import Derived.Test.YtbkcabkfbaikkaaGreatDoorProg
namespace Go.Ev.Z
set_option maxRecDepth 100000
open Go.Proofs
noncomputable def GG : GP := gpCells Tryz.prog 1 [("internal/strconv.uint64pow10", (Lib.pow10Tab.map fun z => Value.int .u64 z).toArray)] [] (by kernel_rfl) (by kernel_rfl)
theorem ggTab (w : World) (h : GG.G w) : Lib.TabIs Tryz.prog w "internal/strconv.uint64pow10" .u64 Lib.pow10Tab := h.1.2 _ (List.mem_cons_self ..)
noncomputable def E0 (_F : Nat) : Env := baseEnv tab (fun f => [].any fun k => Nat.beq f k)
noncomputable def en_laws_szAirway (F : Nat) : Entry := ⟨184, [Tsiiiiii, (.int .i64)], [((.int .i64), .no)], fun x => laws_szAirway F x.1 x.2.1⟩
noncomputable def ls_laws_szAirway (_F : Nat) : List (Nat × LoopFn) := []
noncomputable def E_laws_szAirway (F : Nat) : Env := (E0 F).ext (en_laws_szAirway F)
noncomputable def en_laws_szAirwayS (F : Nat) : Entry := ⟨119, [(.sl Tsiiiiii), (.int .i64)], [((.int .i64), .no)], fun x => laws_szAirwayS F x.1 x.2.1⟩
noncomputable def ls_laws_szAirwayS (F : Nat) : List (Nat × LoopFn) := [(0, laws_szAirwayS_l0 F)]
noncomputable def E_laws_szAirwayS (F : Nat) : Env := (E_laws_szAirway F).ext (en_laws_szAirwayS F)
noncomputable def en_laws_szMine (F : Nat) : Entry := ⟨64, [TiSqsiiiiiip, (.int .i64)], [((.int .i64), .no)], fun x => laws_szMine F x.1 x.2.1⟩
noncomputable def ls_laws_szMine (_F : Nat) : List (Nat × LoopFn) := []
noncomputable def E_laws_szMine (F : Nat) : Env := (E_laws_szAirwayS F).ext (en_laws_szMine F)
noncomputable def en_laws_szDoor (F : Nat) : Entry := ⟨120, [Tsiii, (.int .i64)], [((.int .i64), .no)], fun x => laws_szDoor F x.1 x.2.1⟩
noncomputable def ls_laws_szDoor (_F : Nat) : List (Nat × LoopFn) := []
noncomputable def E_laws_szDoor (F : Nat) : Env := (E_laws_szMine F).ext (en_laws_szDoor F)
noncomputable def en_laws_szDoorS (F : Nat) : Entry := ⟨65, [(.sl Tsiii), (.int .i64)], [((.int .i64), .no)], fun x => laws_szDoorS F x.1 x.2.1⟩
noncomputable def ls_laws_szDoorS (F : Nat) : List (Nat × LoopFn) := [(0, laws_szDoorS_l0 F)]
noncomputable def E_laws_szDoorS (F : Nat) : Env := (E_laws_szDoor F).ext (en_laws_szDoorS F)
noncomputable def en_laws_szInt64S (F : Nat) : Entry := ⟨27, [(.sl (.int .i64)), (.int .i64)], [((.int .i64), .no)], fun x => laws_szInt64S F x.1 x.2.1⟩
noncomputable def ls_laws_szInt64S (_F : Nat) : List (Nat × LoopFn) := []
noncomputable def E_laws_szInt64S (F : Nat) : Env := (E_laws_szDoorS F).ext (en_laws_szInt64S F)
noncomputable def en_laws_szInt64SS (F : Nat) : Entry := ⟨66, [(.sl (.sl (.int .i64))), (.int .i64)], [((.int .i64), .no)], fun x => laws_szInt64SS F x.1 x.2.1⟩
noncomputable def ls_laws_szInt64SS (F : Nat) : List (Nat × LoopFn) := [(0, laws_szInt64SS_l0 F)]
noncomputable def E_laws_szInt64SS (F : Nat) : Env := (E_laws_szInt64S F).ext (en_laws_szInt64SS F)
noncomputable def en_laws_szFan (F : Nat) : Entry := ⟨121, [TsiSSi, (.int .i64)], [((.int .i64), .no)], fun x => laws_szFan F x.1 x.2.1⟩
noncomputable def ls_laws_szFan (_F : Nat) : List (Nat × LoopFn) := []
noncomputable def E_laws_szFan (F : Nat) : Env := (E_laws_szInt64SS F).ext (en_laws_szFan F)
noncomputable def en_laws_szFanS (F : Nat) : Entry := ⟨67, [(.sl TsiSSi), (.int .i64)], [((.int .i64), .no)], fun x => laws_szFanS F x.1 x.2.1⟩
noncomputable def ls_laws_szFanS (F : Nat) : List (Nat × LoopFn) := [(0, laws_szFanS_l0 F)]
noncomputable def E_laws_szFanS (F : Nat) : Env := (E_laws_szFan F).ext (en_laws_szFanS F)
noncomputable def en_laws_szPlant (F : Nat) : Entry := ⟨25, [T9444c66c, (.int .i64)], [((.int .i64), .no)], fun x => laws_szPlant F x.1 x.2.1⟩
noncomputable def ls_laws_szPlant (_F : Nat) : List (Nat × LoopFn) := []
noncomputable def E_laws_szPlant (F : Nat) : Env := (E_laws_szFanS F).ext (en_laws_szPlant F)
noncomputable def en_laws_szBoolS (F : Nat) : Entry := ⟨26, [(.sl .bool), (.int .i64)], [((.int .i64), .no)], fun x => laws_szBoolS F x.1 x.2.1⟩
noncomputable def ls_laws_szBoolS (_F : Nat) : List (Nat × LoopFn) := []
noncomputable def E_laws_szBoolS (F : Nat) : Env := (E_laws_szPlant F).ext (en_laws_szBoolS F)
noncomputable def en_laws_szWantS (F : Nat) : Entry := ⟨28, [(.sl Tiii), (.int .i64)], [((.int .i64), .no)], fun x => laws_szWantS F x.1 x.2.1⟩
noncomputable def ls_laws_szWantS (_F : Nat) : List (Nat × LoopFn) := []
noncomputable def E_laws_szWantS (F : Nat) : Env := (E_laws_szBoolS F).ext (en_laws_szWantS F)
noncomputable def en_laws_szSource (F : Nat) : Entry := ⟨68, [Tsii, (.int .i64)], [((.int .i64), .no)], fun x => laws_szSource F x.1 x.2.1⟩
noncomputable def ls_laws_szSource (_F : Nat) : List (Nat × LoopFn) := []
noncomputable def E_laws_szSource (F : Nat) : Env := (E_laws_szWantS F).ext (en_laws_szSource F)
noncomputable def en_laws_szSourceS (F : Nat) : Entry := ⟨29, [(.sl Tsii), (.int .i64)], [((.int .i64), .no)], fun x => laws_szSourceS F x.1 x.2.1⟩
noncomputable def ls_laws_szSourceS (F : Nat) : List (Nat × LoopFn) := [(0, laws_szSourceS_l0 F)]
noncomputable def E_laws_szSourceS (F : Nat) : Env := (E_laws_szSource F).ext (en_laws_szSourceS F)
noncomputable def en_laws_szJob (F : Nat) : Entry := ⟨69, [Tsiii, (.int .i64)], [((.int .i64), .no)], fun x => laws_szJob F x.1 x.2.1⟩
noncomputable def ls_laws_szJob (_F : Nat) : List (Nat × LoopFn) := []
noncomputable def E_laws_szJob (F : Nat) : Env := (E_laws_szSourceS F).ext (en_laws_szJob F)
noncomputable def en_laws_szJobS (F : Nat) : Entry := ⟨30, [(.sl Tsiii), (.int .i64)], [((.int .i64), .no)], fun x => laws_szJobS F x.1 x.2.1⟩
noncomputable def ls_laws_szJobS (F : Nat) : List (Nat × LoopFn) := [(0, laws_szJobS_l0 F)]
noncomputable def E_laws_szJobS (F : Nat) : Env := (E_laws_szJob F).ext (en_laws_szJobS F)
noncomputable def en_laws_szCrew (F : Nat) : Entry := ⟨70, [Tsii, (.int .i64)], [((.int .i64), .no)], fun x => laws_szCrew F x.1 x.2.1⟩
noncomputable def ls_laws_szCrew (_F : Nat) : List (Nat × LoopFn) := []
noncomputable def E_laws_szCrew (F : Nat) : Env := (E_laws_szJobS F).ext (en_laws_szCrew F)
noncomputable def en_laws_szCrewS (F : Nat) : Entry := ⟨31, [(.sl Tsii), (.int .i64)], [((.int .i64), .no)], fun x => laws_szCrewS F x.1 x.2.1⟩
noncomputable def ls_laws_szCrewS (F : Nat) : List (Nat × LoopFn) := [(0, laws_szCrewS_l0 F)]
noncomputable def E_laws_szCrewS (F : Nat) : Env := (E_laws_szCrew F).ext (en_laws_szCrewS F)
noncomputable def en_laws_szPlan (F : Nat) : Entry := ⟨8, [Tc66acf8c, (.int .i64)], [((.int .i64), .no)], fun x => laws_szPlan F x.1 x.2.1⟩
noncomputable def ls_laws_szPlan (_F : Nat) : List (Nat × LoopFn) := []
noncomputable def E_laws_szPlan (F : Nat) : Env := (E_laws_szCrewS F).ext (en_laws_szPlan F)
noncomputable def en_laws_toAirway (F : Nat) : Entry := ⟨201, [Tsiiiiii], [(Tsiiiiii, (.pr .no (.pr .no (.pr .no (.pr .no (.pr .no (.pr .no (.pr .no .no))))))))], fun x => laws_toAirway F x.1⟩
noncomputable def ls_laws_toAirway (_F : Nat) : List (Nat × LoopFn) := []
noncomputable def E_laws_toAirway (F : Nat) : Env := (E_laws_szPlan F).ext (en_laws_toAirway F)
noncomputable def en_laws_toAirwayS (F : Nat) : Entry := ⟨135, [(.sl Tsiiiiii)], [((.sl Tsiiiiii), (.own none (.pr .no (.pr .no (.pr .no (.pr .no (.pr .no (.pr .no (.pr .no .no)))))))))], fun x => laws_toAirwayS F x.1⟩
noncomputable def ls_laws_toAirwayS (F : Nat) : List (Nat × LoopFn) := [(0, laws_toAirwayS_l0 F)]
noncomputable def E_laws_toAirwayS (F : Nat) : Env := (E_laws_toAirway F).ext (en_laws_toAirwayS F)
noncomputable def en_laws_toMine (F : Nat) : Entry := ⟨74, [TiSqsiiiiiip], [(TiSqsiiiiiip, (.pr .no (.pr (.own none (.pr .no (.pr .no (.pr .no (.pr .no (.pr .no (.pr .no (.pr .no .no)))))))) .no)))], fun x => laws_toMine F x.1⟩
noncomputable def ls_laws_toMine (_F : Nat) : List (Nat × LoopFn) := []
noncomputable def E_laws_toMine (F : Nat) : Env := (E_laws_toAirwayS F).ext (en_laws_toMine F)
noncomputable def en_laws_toDoor (F : Nat) : Entry := ⟨136, [Tsiii], [(Tsiii, (.pr .no (.pr .no (.pr .no (.pr .no .no)))))], fun x => laws_toDoor F x.1⟩
noncomputable def ls_laws_toDoor (_F : Nat) : List (Nat × LoopFn) := []
noncomputable def E_laws_toDoor (F : Nat) : Env := (E_laws_toMine F).ext (en_laws_toDoor F)
noncomputable def en_laws_toDoorS (F : Nat) : Entry := ⟨75, [(.sl Tsiii)], [((.sl Tsiii), (.own none (.pr .no (.pr .no (.pr .no (.pr .no .no))))))], fun x => laws_toDoorS F x.1⟩
noncomputable def ls_laws_toDoorS (F : Nat) : List (Nat × LoopFn) := [(0, laws_toDoorS_l0 F)]
noncomputable def E_laws_toDoorS (F : Nat) : Env := (E_laws_toDoor F).ext (en_laws_toDoorS F)
noncomputable def en_laws_toInt64S (F : Nat) : Entry := ⟨35, [(.sl (.int .i64))], [((.sl (.int .i64)), (.own none .no))], fun x => laws_toInt64S F x.1⟩
noncomputable def ls_laws_toInt64S (F : Nat) : List (Nat × LoopFn) := [(0, laws_toInt64S_l0 F)]
noncomputable def E_laws_toInt64S (F : Nat) : Env := (E_laws_toDoorS F).ext (en_laws_toInt64S F)
noncomputable def en_laws_toInt64SS (F : Nat) : Entry := ⟨76, [(.sl (.sl (.int .i64)))], [((.sl (.sl (.int .i64))), (.own none (.own none .no)))], fun x => laws_toInt64SS F x.1⟩
noncomputable def ls_laws_toInt64SS (F : Nat) : List (Nat × LoopFn) := [(0, laws_toInt64SS_l0 F)]
noncomputable def E_laws_toInt64SS (F : Nat) : Env := (E_laws_toInt64S F).ext (en_laws_toInt64SS F)
noncomputable def en_laws_toFan (F : Nat) : Entry := ⟨137, [TsiSSi], [(TsiSSi, (.pr .no (.pr .no (.pr (.own none (.own none .no)) .no))))], fun x => laws_toFan F x.1⟩
noncomputable def ls_laws_toFan (_F : Nat) : List (Nat × LoopFn) := []
noncomputable def E_laws_toFan (F : Nat) : Env := (E_laws_toInt64SS F).ext (en_laws_toFan F)
noncomputable def en_laws_toFanS (F : Nat) : Entry := ⟨77, [(.sl TsiSSi)], [((.sl TsiSSi), (.own none (.pr .no (.pr .no (.pr (.own none (.own none .no)) .no)))))], fun x => laws_toFanS F x.1⟩
noncomputable def ls_laws_toFanS (F : Nat) : List (Nat × LoopFn) := [(0, laws_toFanS_l0 F)]
noncomputable def E_laws_toFanS (F : Nat) : Env := (E_laws_toFan F).ext (en_laws_toFanS F)
noncomputable def en_laws_toPlant (F : Nat) : Entry := ⟨33, [T9444c66c], [(T9444c66c, (.pr (.pr .no (.pr (.own none (.pr .no (.pr .no (.pr .no (.pr .no (.pr .no (.pr .no (.pr .no .no)))))))) .no)) (.pr (.own none (.pr .no (.pr .no (.pr .no (.pr .no .no))))) (.pr (.own none (.own none .no)) (.pr (.own none (.pr .no (.pr .no (.pr (.own none (.own none .no)) .no)))) (.pr (.own none .no) (.pr .no .no)))))))], fun x => laws_toPlant F x.1⟩
noncomputable def ls_laws_toPlant (_F : Nat) : List (Nat × LoopFn) := []
noncomputable def E_laws_toPlant (F : Nat) : Env := (E_laws_toFanS F).ext (en_laws_toPlant F)
noncomputable def en_laws_toBoolS (F : Nat) : Entry := ⟨34, [(.sl .bool)], [((.sl .bool), (.own none .no))], fun x => laws_toBoolS F x.1⟩
noncomputable def ls_laws_toBoolS (F : Nat) : List (Nat × LoopFn) := [(0, laws_toBoolS_l0 F)]
noncomputable def E_laws_toBoolS (F : Nat) : Env := (E_laws_toPlant F).ext (en_laws_toBoolS F)
noncomputable def en_laws_toWant (F : Nat) : Entry := ⟨78, [Tiii], [(Tiii, (.pr .no (.pr .no (.pr .no .no))))], fun x => laws_toWant F x.1⟩
noncomputable def ls_laws_toWant (_F : Nat) : List (Nat × LoopFn) := []
noncomputable def E_laws_toWant (F : Nat) : Env := (E_laws_toBoolS F).ext (en_laws_toWant F)
noncomputable def en_laws_toWantS (F : Nat) : Entry := ⟨36, [(.sl Tiii)], [((.sl Tiii), (.own none (.pr .no (.pr .no (.pr .no .no)))))], fun x => laws_toWantS F x.1⟩
noncomputable def ls_laws_toWantS (F : Nat) : List (Nat × LoopFn) := [(0, laws_toWantS_l0 F)]
noncomputable def E_laws_toWantS (F : Nat) : Env := (E_laws_toWant F).ext (en_laws_toWantS F)
noncomputable def en_laws_toSource (F : Nat) : Entry := ⟨79, [Tsii], [(Tsii, (.pr .no (.pr .no (.pr .no .no))))], fun x => laws_toSource F x.1⟩
noncomputable def ls_laws_toSource (_F : Nat) : List (Nat × LoopFn) := []
noncomputable def E_laws_toSource (F : Nat) : Env := (E_laws_toWantS F).ext (en_laws_toSource F)
noncomputable def en_laws_toSourceS (F : Nat) : Entry := ⟨37, [(.sl Tsii)], [((.sl Tsii), (.own none (.pr .no (.pr .no (.pr .no .no)))))], fun x => laws_toSourceS F x.1⟩
noncomputable def ls_laws_toSourceS (F : Nat) : List (Nat × LoopFn) := [(0, laws_toSourceS_l0 F)]
noncomputable def E_laws_toSourceS (F : Nat) : Env := (E_laws_toSource F).ext (en_laws_toSourceS F)
noncomputable def en_laws_toJob (F : Nat) : Entry := ⟨80, [Tsiii], [(Tsiii, (.pr .no (.pr .no (.pr .no (.pr .no .no)))))], fun x => laws_toJob F x.1⟩
noncomputable def ls_laws_toJob (_F : Nat) : List (Nat × LoopFn) := []
noncomputable def E_laws_toJob (F : Nat) : Env := (E_laws_toSourceS F).ext (en_laws_toJob F)
noncomputable def en_laws_toJobS (F : Nat) : Entry := ⟨38, [(.sl Tsiii)], [((.sl Tsiii), (.own none (.pr .no (.pr .no (.pr .no (.pr .no .no))))))], fun x => laws_toJobS F x.1⟩
noncomputable def ls_laws_toJobS (F : Nat) : List (Nat × LoopFn) := [(0, laws_toJobS_l0 F)]
noncomputable def E_laws_toJobS (F : Nat) : Env := (E_laws_toJob F).ext (en_laws_toJobS F)
noncomputable def en_laws_toCrew (F : Nat) : Entry := ⟨81, [Tsii], [(Tsii, (.pr .no (.pr .no (.pr .no .no))))], fun x => laws_toCrew F x.1⟩
noncomputable def ls_laws_toCrew (_F : Nat) : List (Nat × LoopFn) := []
noncomputable def E_laws_toCrew (F : Nat) : Env := (E_laws_toJobS F).ext (en_laws_toCrew F)
noncomputable def en_laws_toCrewS (F : Nat) : Entry := ⟨39, [(.sl Tsii)], [((.sl Tsii), (.own none (.pr .no (.pr .no (.pr .no .no)))))], fun x => laws_toCrewS F x.1⟩
noncomputable def ls_laws_toCrewS (F : Nat) : List (Nat × LoopFn) := [(0, laws_toCrewS_l0 F)]
noncomputable def E_laws_toCrewS (F : Nat) : Env := (E_laws_toCrew F).ext (en_laws_toCrewS F)
noncomputable def en_laws_toFire (F : Nat) : Entry := ⟨40, [Tiii], [(Tiii, (.pr .no (.pr .no (.pr .no .no))))], fun x => laws_toFire F x.1⟩
noncomputable def ls_laws_toFire (_F : Nat) : List (Nat × LoopFn) := []
noncomputable def E_laws_toFire (F : Nat) : Env := (E_laws_toCrewS F).ext (en_laws_toFire F)
noncomputable def en_laws_toPlan (F : Nat) : Entry := ⟨10, [Tc66acf8c], [(Tc66acf8c, (.pr (.pr (.pr .no (.pr (.own none (.pr .no (.pr .no (.pr .no (.pr .no (.pr .no (.pr .no (.pr .no .no)))))))) .no)) (.pr (.own none (.pr .no (.pr .no (.pr .no (.pr .no .no))))) (.pr (.own none (.own none .no)) (.pr (.own none (.pr .no (.pr .no (.pr (.own none (.own none .no)) .no)))) (.pr (.own none .no) (.pr .no .no)))))) (.pr (.own none .no) (.pr (.own none .no) (.pr (.own none (.pr .no (.pr .no (.pr .no .no)))) (.pr (.own none (.pr .no (.pr .no (.pr .no .no)))) (.pr .no (.pr (.own none (.pr .no (.pr .no (.pr .no (.pr .no .no))))) (.pr (.own none (.pr .no (.pr .no (.pr .no .no)))) (.pr (.own none .no) (.pr (.pr .no (.pr .no (.pr .no .no))) (.pr .no .no))))))))))))], fun x => laws_toPlan F x.1⟩
noncomputable def ls_laws_toPlan (_F : Nat) : List (Nat × LoopFn) := []
noncomputable def E_laws_toPlan (F : Nat) : Env := (E_laws_toFire F).ext (en_laws_toPlan F)
noncomputable def en_spec_l00In (F : Nat) : Entry := ⟨112, [(.int .i64), (.int .i64), (.int .i64)], [(.bool, .no)], fun x => spec_l00In F x.1 x.2.1 x.2.2.1⟩
noncomputable def ls_spec_l00In (_F : Nat) : List (Nat × LoopFn) := []
noncomputable def E_spec_l00In (F : Nat) : Env := (E_laws_toPlan F).ext (en_spec_l00In F)
noncomputable def en_spec_l01Small (F : Nat) : Entry := ⟨273, [(.int .u8)], [(.bool, .no)], fun x => spec_l01Small F x.1⟩
noncomputable def ls_spec_l01Small (_F : Nat) : List (Nat × LoopFn) := []
noncomputable def E_spec_l01Small (F : Nat) : Env := (E_spec_l00In F).ext (en_spec_l01Small F)
noncomputable def en_spec_l01Digit (F : Nat) : Entry := ⟨274, [(.int .u8)], [(.bool, .no)], fun x => spec_l01Digit F x.1⟩
noncomputable def ls_spec_l01Digit (_F : Nat) : List (Nat × LoopFn) := []
noncomputable def E_spec_l01Digit (F : Nat) : Env := (E_spec_l01Small F).ext (en_spec_l01Digit F)
noncomputable def en_spec_l01Name (F : Nat) : Entry := ⟨238, [.str], [(.bool, .no)], fun x => spec_l01Name F x.1⟩
noncomputable def ls_spec_l01Name (F : Nat) : List (Nat × LoopFn) := [(0, spec_l01Name_l0 F)]
noncomputable def E_spec_l01Name (F : Nat) : Env := (E_spec_l01Digit F).ext (en_spec_l01Name F)
noncomputable def en_spec_l03Ok (F : Nat) : Entry := ⟨269, [(.ptr Tsiiiiii)], [(.bool, .no)], fun x => spec_l03Ok F x.1⟩
noncomputable def ls_spec_l03Ok (_F : Nat) : List (Nat × LoopFn) := []
noncomputable def E_spec_l03Ok (F : Nat) : Env := (E_spec_l01Name F).ext (en_spec_l03Ok F)
noncomputable def en_spec_l04Junction (F : Nat) : Entry := ⟨270, [(.ptr TiSqsiiiiiip), (.int .i64)], [(.bool, .no)], fun x => spec_l04Junction F x.1 x.2.1⟩
noncomputable def ls_spec_l04Junction (_F : Nat) : List (Nat × LoopFn) := []
noncomputable def E_spec_l04Junction (F : Nat) : Env := (E_spec_l03Ok F).ext (en_spec_l04Junction F)
noncomputable def en_spec_l04Ok (F : Nat) : Entry := ⟨235, [(.ptr TiSqsiiiiiip)], [(.bool, .no)], fun x => spec_l04Ok F x.1⟩
noncomputable def ls_spec_l04Ok (F : Nat) : List (Nat × LoopFn) := [(0, spec_l04Ok_l0 F)]
noncomputable def E_spec_l04Ok (F : Nat) : Env := (E_spec_l04Junction F).ext (en_spec_l04Ok F)
noncomputable def en_spec_l03Res (F : Nat) : Entry := ⟨271, [(.int .i64)], [(.bool, .no)], fun x => spec_l03Res F x.1⟩
noncomputable def ls_spec_l03Res (_F : Nat) : List (Nat × LoopFn) := []
noncomputable def E_spec_l03Res (F : Nat) : Env := (E_spec_l04Ok F).ext (en_spec_l03Res F)
noncomputable def en_spec_l10One (F : Nat) : Entry := ⟨236, [(.ptr Tsiii)], [(.bool, .no)], fun x => spec_l10One F x.1⟩
noncomputable def ls_spec_l10One (_F : Nat) : List (Nat × LoopFn) := []
noncomputable def E_spec_l10One (F : Nat) : Env := (E_spec_l03Res F).ext (en_spec_l10One F)
noncomputable def en_spec_l10Ok (F : Nat) : Entry := ⟨172, [(.ptr TiSqsiiiiiip), (.sl Tsiii)], [(.bool, .no)], fun x => spec_l10Ok F x.1 x.2.1⟩
noncomputable def ls_spec_l10Ok (F : Nat) : List (Nat × LoopFn) := [(0, spec_l10Ok_l0 F), (2, spec_l10Ok_l1 F)]
noncomputable def E_spec_l10Ok (F : Nat) : Env := (E_spec_l10One F).ext (en_spec_l10Ok F)
noncomputable def en_spec_l10Locks (F : Nat) : Entry := ⟨173, [(.int .i64), (.sl (.sl (.int .i64)))], [(.bool, .no)], fun x => spec_l10Locks F x.1 x.2.1⟩
noncomputable def ls_spec_l10Locks (F : Nat) : List (Nat × LoopFn) := [(0, spec_l10Locks_l0 F)]
noncomputable def E_spec_l10Locks (F : Nat) : Env := (E_spec_l10Ok F).ext (en_spec_l10Locks F)
noncomputable def en_spec_l06Curve (F : Nat) : Entry := ⟨272, [(.sl (.sl (.int .i64)))], [(.bool, .no)], fun x => spec_l06Curve F x.1⟩
noncomputable def ls_spec_l06Curve (F : Nat) : List (Nat × LoopFn) := [(0, spec_l06Curve_l0 F)]
noncomputable def E_spec_l06Curve (F : Nat) : Env := (E_spec_l10Locks F).ext (en_spec_l06Curve F)
noncomputable def en_spec_l06Ok (F : Nat) : Entry := ⟨237, [(.ptr TsiSSi)], [(.bool, .no)], fun x => spec_l06Ok F x.1⟩
noncomputable def ls_spec_l06Ok (_F : Nat) : List (Nat × LoopFn) := []
noncomputable def E_spec_l06Ok (F : Nat) : Env := (E_spec_l06Curve F).ext (en_spec_l06Ok F)
noncomputable def en_spec_l06List (F : Nat) : Entry := ⟨174, [(.sl TsiSSi)], [(.bool, .no)], fun x => spec_l06List F x.1⟩
noncomputable def ls_spec_l06List (F : Nat) : List (Nat × LoopFn) := [(0, spec_l06List_l0 F)]
noncomputable def E_spec_l06List (F : Nat) : Env := (E_spec_l06Ok F).ext (en_spec_l06List F)
noncomputable def en_spec_l07Fans (F : Nat) : Entry := ⟨175, [(.ptr TiSqsiiiiiip), (.sl TsiSSi)], [(.bool, .no)], fun x => spec_l07Fans F x.1 x.2.1⟩
noncomputable def ls_spec_l07Fans (F : Nat) : List (Nat × LoopFn) := [(0, spec_l07Fans_l0 F)]
noncomputable def E_spec_l07Fans (F : Nat) : Env := (E_spec_l06List F).ext (en_spec_l07Fans F)
noncomputable def en_spec_l07Pressures (F : Nat) : Entry := ⟨176, [(.ptr TiSqsiiiiiip), (.sl (.int .i64))], [(.bool, .no)], fun x => spec_l07Pressures F x.1 x.2.1⟩
noncomputable def ls_spec_l07Pressures (F : Nat) : List (Nat × LoopFn) := [(0, spec_l07Pressures_l0 F)]
noncomputable def E_spec_l07Pressures (F : Nat) : Env := (E_spec_l07Fans F).ext (en_spec_l07Pressures F)
noncomputable def en_spec_l21Ok (F : Nat) : Entry := ⟨108, [(.ptr T9444c66c)], [(.bool, .no)], fun x => spec_l21Ok F x.1⟩
noncomputable def ls_spec_l21Ok (_F : Nat) : List (Nat × LoopFn) := []
noncomputable def E_spec_l21Ok (F : Nat) : Env := (E_spec_l07Pressures F).ext (en_spec_l21Ok F)
noncomputable def en_spec_l03Flow (F : Nat) : Entry := ⟨177, [(.int .i64)], [(.bool, .no)], fun x => spec_l03Flow F x.1⟩
noncomputable def ls_spec_l03Flow (_F : Nat) : List (Nat × LoopFn) := []
noncomputable def E_spec_l03Flow (F : Nat) : Env := (E_spec_l21Ok F).ext (en_spec_l03Flow F)
noncomputable def en_spec_l07Flows (F : Nat) : Entry := ⟨109, [(.ptr TiSqsiiiiiip), (.sl (.int .i64))], [(.bool, .no)], fun x => spec_l07Flows F x.1 x.2.1⟩
noncomputable def ls_spec_l07Flows (F : Nat) : List (Nat × LoopFn) := [(0, spec_l07Flows_l0 F)]
noncomputable def E_spec_l07Flows (F : Nat) : Env := (E_spec_l03Flow F).ext (en_spec_l07Flows F)
noncomputable def en_spec_l21One (F : Nat) : Entry := ⟨178, [(.ptr Tiii)], [(.bool, .no)], fun x => spec_l21One F x.1⟩
noncomputable def ls_spec_l21One (_F : Nat) : List (Nat × LoopFn) := []
noncomputable def E_spec_l21One (F : Nat) : Env := (E_spec_l07Flows F).ext (en_spec_l21One F)
noncomputable def en_spec_l21Wants (F : Nat) : Entry := ⟨110, [(.ptr TiSqsiiiiiip), (.sl Tiii)], [(.bool, .no)], fun x => spec_l21Wants F x.1 x.2.1⟩
noncomputable def ls_spec_l21Wants (F : Nat) : List (Nat × LoopFn) := [(0, spec_l21Wants_l0 F)]
noncomputable def E_spec_l21Wants (F : Nat) : Env := (E_spec_l21One F).ext (en_spec_l21Wants F)
noncomputable def en_spec_l13One (F : Nat) : Entry := ⟨179, [(.ptr Tsii)], [(.bool, .no)], fun x => spec_l13One F x.1⟩
noncomputable def ls_spec_l13One (_F : Nat) : List (Nat × LoopFn) := []
noncomputable def E_spec_l13One (F : Nat) : Env := (E_spec_l21Wants F).ext (en_spec_l13One F)
noncomputable def en_spec_l13List (F : Nat) : Entry := ⟨111, [(.ptr TiSqsiiiiiip), (.sl Tsii)], [(.bool, .no)], fun x => spec_l13List F x.1 x.2.1⟩
noncomputable def ls_spec_l13List (F : Nat) : List (Nat × LoopFn) := [(0, spec_l13List_l0 F)]
noncomputable def E_spec_l13List (F : Nat) : Env := (E_spec_l13One F).ext (en_spec_l13List F)
noncomputable def en_spec_l23One (F : Nat) : Entry := ⟨180, [(.ptr Tsiii)], [(.bool, .no)], fun x => spec_l23One F x.1⟩
noncomputable def ls_spec_l23One (_F : Nat) : List (Nat × LoopFn) := []
noncomputable def E_spec_l23One (F : Nat) : Env := (E_spec_l13List F).ext (en_spec_l23One F)
noncomputable def en_spec_l23List (F : Nat) : Entry := ⟨113, [(.ptr TiSqsiiiiiip), (.sl Tsiii)], [(.bool, .no)], fun x => spec_l23List F x.1 x.2.1⟩
noncomputable def ls_spec_l23List (F : Nat) : List (Nat × LoopFn) := [(0, spec_l23List_l0 F)]
noncomputable def E_spec_l23List (F : Nat) : Env := (E_spec_l23One F).ext (en_spec_l23List F)
noncomputable def en_spec_l19One (F : Nat) : Entry := ⟨181, [(.ptr Tsii)], [(.bool, .no)], fun x => spec_l19One F x.1⟩
noncomputable def ls_spec_l19One (_F : Nat) : List (Nat × LoopFn) := []
noncomputable def E_spec_l19One (F : Nat) : Env := (E_spec_l23List F).ext (en_spec_l19One F)
noncomputable def en_spec_l19List (F : Nat) : Entry := ⟨114, [(.ptr TiSqsiiiiiip), (.sl Tsii)], [(.bool, .no)], fun x => spec_l19List F x.1 x.2.1⟩
noncomputable def ls_spec_l19List (F : Nat) : List (Nat × LoopFn) := [(0, spec_l19List_l0 F)]
noncomputable def E_spec_l19List (F : Nat) : Env := (E_spec_l19One F).ext (en_spec_l19List F)
noncomputable def en_spec_l00Rises (F : Nat) : Entry := ⟨115, [(.sl (.int .i64)), (.int .i64), (.int .i64)], [(.bool, .no)], fun x => spec_l00Rises F x.1 x.2.1 x.2.2.1⟩
noncomputable def ls_spec_l00Rises (F : Nat) : List (Nat × LoopFn) := [(0, spec_l00Rises_l0 F)]
noncomputable def E_spec_l00Rises (F : Nat) : Env := (E_spec_l19List F).ext (en_spec_l00Rises F)
noncomputable def en_spec_l01Root (F : Nat) : Entry := ⟨276, [(.int .i64)], [((.int .i64), .no)], fun x => spec_l01Root F x.1⟩
noncomputable def ls_spec_l01Root (F : Nat) : List (Nat × LoopFn) := [(0, spec_l01Root_l0 F)]
noncomputable def E_spec_l01Root (F : Nat) : Env := (E_spec_l00Rises F).ext (en_spec_l01Root F)
noncomputable def en_spec_l01Div (F : Nat) : Entry := ⟨275, [(.int .i64), (.int .i64)], [((.int .i64), .no)], fun x => spec_l01Div F x.1 x.2.1⟩
noncomputable def ls_spec_l01Div (_F : Nat) : List (Nat × LoopFn) := []
noncomputable def E_spec_l01Div (F : Nat) : Env := (E_spec_l01Root F).ext (en_spec_l01Div F)
noncomputable def en_spec_l03Raw (F : Nat) : Entry := ⟨239, [(.ptr Tsiiiiii), (.int .i64)], [((.int .i64), .no)], fun x => spec_l03Raw F x.1 x.2.1⟩
noncomputable def ls_spec_l03Raw (_F : Nat) : List (Nat × LoopFn) := []
noncomputable def E_spec_l03Raw (F : Nat) : Env := (E_spec_l01Div F).ext (en_spec_l03Raw F)
noncomputable def en_spec_l00Max (F : Nat) : Entry := ⟨191, [(.int .i64), (.int .i64)], [((.int .i64), .no)], fun x => spec_l00Max F x.1 x.2.1⟩
noncomputable def ls_spec_l00Max (_F : Nat) : List (Nat × LoopFn) := []
noncomputable def E_spec_l00Max (F : Nat) : Env := (E_spec_l03Raw F).ext (en_spec_l00Max F)
noncomputable def en_spec_l03Resistance (F : Nat) : Entry := ⟨182, [(.ptr Tsiiiiii)], [((.int .i64), .no), ((.int .i64), .no)], fun x => spec_l03Resistance F x.1⟩
noncomputable def ls_spec_l03Resistance (_F : Nat) : List (Nat × LoopFn) := []
noncomputable def E_spec_l03Resistance (F : Nat) : Env := (E_spec_l00Max F).ext (en_spec_l03Resistance F)
noncomputable def en_spec_l10Resistances (F : Nat) : Entry := ⟨116, [(.ptr TiSqsiiiiiip), (.sl Tsiii), (.sl .bool)], [((.sl (.int .i64)), (.own none .no)), ((.int .i64), .no)], fun x => spec_l10Resistances F x.1 x.2.1 x.2.2.1⟩
noncomputable def ls_spec_l10Resistances (F : Nat) : List (Nat × LoopFn) := [(0, spec_l10Resistances_l0 F), (2, spec_l10Resistances_l1 F)]
noncomputable def E_spec_l10Resistances (F : Nat) : Env := (E_spec_l03Resistance F).ext (en_spec_l10Resistances F)
noncomputable def en_spec_l17One (F : Nat) : Entry := ⟨183, [(.ptr Tiii)], [(.bool, .no)], fun x => spec_l17One F x.1⟩
noncomputable def ls_spec_l17One (_F : Nat) : List (Nat × LoopFn) := []
noncomputable def E_spec_l17One (F : Nat) : Env := (E_spec_l10Resistances F).ext (en_spec_l17One F)
noncomputable def en_spec_l17Fire (F : Nat) : Entry := ⟨117, [(.ptr TiSqsiiiiiip), (.ptr Tiii)], [(.bool, .no)], fun x => spec_l17Fire F x.1 x.2.1⟩
noncomputable def ls_spec_l17Fire (_F : Nat) : List (Nat × LoopFn) := []
noncomputable def E_spec_l17Fire (F : Nat) : Env := (E_spec_l17One F).ext (en_spec_l17Fire F)
noncomputable def en_spec_l17Time (F : Nat) : Entry := ⟨118, [(.int .i64)], [(.bool, .no)], fun x => spec_l17Time F x.1⟩
noncomputable def ls_spec_l17Time (_F : Nat) : List (Nat × LoopFn) := []
noncomputable def E_spec_l17Time (F : Nat) : Env := (E_spec_l17Fire F).ext (en_spec_l17Time F)
noncomputable def en_spec_l31Ok (F : Nat) : Entry := ⟨62, [(.ptr Tc66acf8c)], [(.bool, .no)], fun x => spec_l31Ok F x.1⟩
noncomputable def ls_spec_l31Ok (_F : Nat) : List (Nat × LoopFn) := []
noncomputable def E_spec_l31Ok (F : Nat) : Env := (E_spec_l17Time F).ext (en_spec_l31Ok F)
noncomputable def en_spec_l13Start (F : Nat) : Entry := ⟨194, [(.ptr Tsiiiiii), (.int .i64)], [((.int .i64), .no)], fun x => spec_l13Start F x.1 x.2.1⟩
noncomputable def ls_spec_l13Start (_F : Nat) : List (Nat × LoopFn) := []
noncomputable def E_spec_l13Start (F : Nat) : Env := (E_spec_l31Ok F).ext (en_spec_l13Start F)
noncomputable def en_spec_l03Abs (F : Nat) : Entry := ⟨127, [(.int .i64)], [((.int .i64), .no)], fun x => spec_l03Abs F x.1⟩
noncomputable def ls_spec_l03Abs (_F : Nat) : List (Nat × LoopFn) := []
noncomputable def E_spec_l03Abs (F : Nat) : Env := (E_spec_l13Start F).ext (en_spec_l03Abs F)
noncomputable def en_spec_l13Gas (F : Nat) : Entry := ⟨244, [(.sl Tsii), (.int .i64)], [((.int .i64), .no)], fun x => spec_l13Gas F x.1 x.2.1⟩
noncomputable def ls_spec_l13Gas (F : Nat) : List (Nat × LoopFn) := [(0, spec_l13Gas_l0 F)]
noncomputable def E_spec_l13Gas (F : Nat) : Env := (E_spec_l03Abs F).ext (en_spec_l13Gas F)
noncomputable def en_spec_l00Min (F : Nat) : Entry := ⟨245, [(.int .i64), (.int .i64)], [((.int .i64), .no)], fun x => spec_l00Min F x.1 x.2.1⟩
noncomputable def ls_spec_l00Min (_F : Nat) : List (Nat × LoopFn) := []
noncomputable def E_spec_l00Min (F : Nat) : Env := (E_spec_l13Gas F).ext (en_spec_l00Min F)
noncomputable def en_spec_l13Share (F : Nat) : Entry := ⟨246, [(.int .i64), (.int .i64)], [((.int .i64), .no)], fun x => spec_l13Share F x.1 x.2.1⟩
noncomputable def ls_spec_l13Share (_F : Nat) : List (Nat × LoopFn) := []
noncomputable def E_spec_l13Share (F : Nat) : Env := (E_spec_l00Min F).ext (en_spec_l13Share F)
noncomputable def en_spec_l13End (F : Nat) : Entry := ⟨193, [(.sl Tsii), (.int .i64), (.int .i64), (.int .i64)], [((.int .i64), .no)], fun x => spec_l13End F x.1 x.2.1 x.2.2.1 x.2.2.2.1⟩
noncomputable def ls_spec_l13End (_F : Nat) : List (Nat × LoopFn) := []
noncomputable def E_spec_l13End (F : Nat) : Env := (E_spec_l13Share F).ext (en_spec_l13End F)
noncomputable def en_spec_l13Mix (F : Nat) : Entry := ⟨243, [(.sl (.int .i64)), (.sl (.int .i64))], [((.int .i64), .no)], fun x => spec_l13Mix F x.1 x.2.1⟩
noncomputable def ls_spec_l13Mix (F : Nat) : List (Nat × LoopFn) := [(0, spec_l13Mix_l0 F)]
noncomputable def E_spec_l13Mix (F : Nat) : Env := (E_spec_l13End F).ext (en_spec_l13Mix F)
noncomputable def en_spec_l13Shares (F : Nat) : Entry := ⟨192, [(.ptr TiSqsiiiiiip), (.sl (.int .i64)), (.sl Tsii)], [((.sl (.int .i64)), (.own none .no))], fun x => spec_l13Shares F x.1 x.2.1 x.2.2.1⟩
noncomputable def ls_spec_l13Shares (F : Nat) : List (Nat × LoopFn) := [(0, spec_l13Shares_l0 F), (2, spec_l13Shares_l1 F), (4, spec_l13Shares_l2 F)]
noncomputable def E_spec_l13Shares (F : Nat) : Env := (E_spec_l13Mix F).ext (en_spec_l13Shares F)
noncomputable def en_spec_l13Ends (F : Nat) : Entry := ⟨128, [(.ptr TiSqsiiiiiip), (.sl (.int .i64)), (.sl Tsii)], [((.sl (.int .i64)), (.own none .no))], fun x => spec_l13Ends F x.1 x.2.1 x.2.2.1⟩
noncomputable def ls_spec_l13Ends (F : Nat) : List (Nat × LoopFn) := [(0, spec_l13Ends_l0 F)]
noncomputable def E_spec_l13Ends (F : Nat) : Env := (E_spec_l13Shares F).ext (en_spec_l13Ends F)
noncomputable def en_spec_l01Dec (F : Nat) : Entry := ⟨123, [(.int .i64)], [(.str, .no)], fun x => spec_l01Dec F x.1⟩
noncomputable def ls_spec_l01Dec (F : Nat) : List (Nat × LoopFn) := [(0, spec_l01Dec_l0 F), (2, spec_l01Dec_l1 F)]
noncomputable def E_spec_l01Dec (F : Nat) : Env := (E_spec_l13Ends F).ext (en_spec_l01Dec F)
noncomputable def en_spec_l23All (F : Nat) : Entry := ⟨130, [(.sl Tsiii)], [((.sl (.int .i64)), (.own none .no))], fun x => spec_l23All F x.1⟩
noncomputable def ls_spec_l23All (F : Nat) : List (Nat × LoopFn) := [(0, spec_l23All_l0 F)]
noncomputable def E_spec_l23All (F : Nat) : Env := (E_spec_l01Dec F).ext (en_spec_l23All F)
noncomputable def en_spec_l23Need (F : Nat) : Entry := ⟨195, [(.ptr Tsiii)], [((.int .i64), .no)], fun x => spec_l23Need F x.1⟩
noncomputable def ls_spec_l23Need (_F : Nat) : List (Nat × LoopFn) := []
noncomputable def E_spec_l23Need (F : Nat) : Env := (E_spec_l23All F).ext (en_spec_l23Need F)
noncomputable def en_spec_l23Needs (F : Nat) : Entry := ⟨129, [(.ptr TiSqsiiiiiip), (.sl Tsiii), (.sl (.int .i64))], [((.sl (.int .i64)), (.own none .no))], fun x => spec_l23Needs F x.1 x.2.1 x.2.2.1⟩
noncomputable def ls_spec_l23Needs (F : Nat) : List (Nat × LoopFn) := [(0, spec_l23Needs_l0 F)]
noncomputable def E_spec_l23Needs (F : Nat) : Env := (E_spec_l23Need F).ext (en_spec_l23Needs F)
noncomputable def en_spec_l21Miss (F : Nat) : Entry := ⟨131, [(.sl (.int .i64)), (.ptr Tiii)], [((.int .i64), .no)], fun x => spec_l21Miss F x.1 x.2.1⟩
noncomputable def ls_spec_l21Miss (_F : Nat) : List (Nat × LoopFn) := []
noncomputable def E_spec_l21Miss (F : Nat) : Env := (E_spec_l23Needs F).ext (en_spec_l21Miss F)
noncomputable def en_spec_l31Load (F : Nat) : Entry := ⟨72, [(.ptr Tc66acf8c)], [((.sl Tiss), (.own none (.pr .no (.pr .no (.pr .no .no)))))], fun x => spec_l31Load F x.1⟩
noncomputable def ls_spec_l31Load (F : Nat) : List (Nat × LoopFn) := [(0, spec_l31Load_l0 F), (2, spec_l31Load_l1 F), (4, spec_l31Load_l2 F)]
noncomputable def E_spec_l31Load (F : Nat) : Env := (E_spec_l21Miss F).ext (en_spec_l31Load F)
noncomputable def en_spec_l31Part (F : Nat) : Entry := ⟨32, [(.ptr Tc66acf8c), (.int .i64)], [((.sl Tiss), (.own none (.pr .no (.pr .no (.pr .no .no))))), ((.int .i64), .no)], fun x => spec_l31Part F x.1 x.2.1⟩
noncomputable def ls_spec_l31Part (_F : Nat) : List (Nat × LoopFn) := []
noncomputable def E_spec_l31Part (F : Nat) : Env := (E_spec_l31Load F).ext (en_spec_l31Part F)
noncomputable def en_spec_LoadProblems (F : Nat) : Entry := ⟨9, [Tc66acf8c], [((.sl Tiss), (.own none (.pr .no (.pr .no (.pr .no .no))))), ((.int .i64), .no)], fun x => spec_LoadProblems F x.1⟩
noncomputable def ls_spec_LoadProblems (_F : Nat) : List (Nat × LoopFn) := []
noncomputable def E_spec_LoadProblems (F : Nat) : Env := (E_spec_l31Part F).ext (en_spec_LoadProblems F)
noncomputable def en_impl_within (F : Nat) : Entry := ⟨145, [(.int .i64), (.int .i64), (.int .i64)], [(.bool, .no)], fun x => impl_within F x.1 x.2.1 x.2.2.1⟩
noncomputable def ls_impl_within (_F : Nat) : List (Nat × LoopFn) := []
noncomputable def E_impl_within (F : Nat) : Env := (E_spec_LoadProblems F).ext (en_impl_within F)
noncomputable def en_impl_onlyNameBytes (F : Nat) : Entry := ⟨279, [.str], [(.bool, .no)], fun x => impl_onlyNameBytes F x.1⟩
noncomputable def ls_impl_onlyNameBytes (F : Nat) : List (Nat × LoopFn) := [(0, impl_onlyNameBytes_l0 F)]
noncomputable def E_impl_onlyNameBytes (F : Nat) : Env := (E_impl_within F).ext (en_impl_onlyNameBytes F)
noncomputable def en_impl_IsName (F : Nat) : Entry := ⟨255, [.str], [(.bool, .no)], fun x => impl_IsName F x.1⟩
noncomputable def ls_impl_IsName (_F : Nat) : List (Nat × LoopFn) := []
noncomputable def E_impl_IsName (F : Nat) : Env := (E_impl_onlyNameBytes F).ext (en_impl_IsName F)
noncomputable def en_impl_junctionOk (F : Nat) : Entry := ⟨257, [(.int .i64)], [(.bool, .no)], fun x => impl_junctionOk F x.1⟩
noncomputable def ls_impl_junctionOk (_F : Nat) : List (Nat × LoopFn) := []
noncomputable def E_impl_junctionOk (F : Nat) : Env := (E_impl_IsName F).ext (en_impl_junctionOk F)
noncomputable def en_impl_ValidAirway (F : Nat) : Entry := ⟨251, [Tsiiiiii], [(.bool, .no)], fun x => impl_ValidAirway F x.1⟩
noncomputable def ls_impl_ValidAirway (_F : Nat) : List (Nat × LoopFn) := []
noncomputable def E_impl_ValidAirway (F : Nat) : Env := (E_impl_junctionOk F).ext (en_impl_ValidAirway F)
noncomputable def en_impl_Mine_hasJunction (F : Nat) : Entry := ⟨214, [TiSqsiiiiiip, (.int .i64)], [(.bool, .no)], fun x => impl_Mine_hasJunction F x.1 x.2.1⟩
noncomputable def ls_impl_Mine_hasJunction (_F : Nat) : List (Nat × LoopFn) := []
noncomputable def E_impl_Mine_hasJunction (F : Nat) : Env := (E_impl_ValidAirway F).ext (en_impl_Mine_hasJunction F)
noncomputable def en_impl_Mine_hasEnds (F : Nat) : Entry := ⟨252, [TiSqsiiiiiip, Tsiiiiii], [(.bool, .no)], fun x => impl_Mine_hasEnds F x.1 x.2.1⟩
noncomputable def ls_impl_Mine_hasEnds (_F : Nat) : List (Nat × LoopFn) := []
noncomputable def E_impl_Mine_hasEnds (F : Nat) : Env := (E_impl_Mine_hasJunction F).ext (en_impl_Mine_hasEnds F)
noncomputable def en_impl_ValidMine (F : Nat) : Entry := ⟨206, [TiSqsiiiiiip], [(.bool, .no)], fun x => impl_ValidMine F x.1⟩
noncomputable def ls_impl_ValidMine (F : Nat) : List (Nat × LoopFn) := [(0, impl_ValidMine_l0 F)]
noncomputable def E_impl_ValidMine (F : Nat) : Env := (E_impl_Mine_hasEnds F).ext (en_impl_ValidMine F)
noncomputable def en_impl_resistanceOk (F : Nat) : Entry := ⟨264, [(.int .i64)], [(.bool, .no)], fun x => impl_resistanceOk F x.1⟩
noncomputable def ls_impl_resistanceOk (_F : Nat) : List (Nat × LoopFn) := []
noncomputable def E_impl_resistanceOk (F : Nat) : Env := (E_impl_ValidMine F).ext (en_impl_resistanceOk F)
noncomputable def en_impl_ValidDoor (F : Nat) : Entry := ⟨222, [Tsiii], [(.bool, .no)], fun x => impl_ValidDoor F x.1⟩
noncomputable def ls_impl_ValidDoor (_F : Nat) : List (Nat × LoopFn) := []
noncomputable def E_impl_ValidDoor (F : Nat) : Env := (E_impl_resistanceOk F).ext (en_impl_ValidDoor F)
noncomputable def en_impl_indexValid_Airway (F : Nat) : Entry := ⟨210, [(.sl Tsiiiiii), (.int .i64)], [(.bool, .no)], fun x => impl_indexValid_Airway F x.1 x.2.1⟩
noncomputable def ls_impl_indexValid_Airway (_F : Nat) : List (Nat × LoopFn) := []
noncomputable def E_impl_indexValid_Airway (F : Nat) : Env := (E_impl_ValidDoor F).ext (en_impl_indexValid_Airway F)
noncomputable def en_impl_ValidDoors_1 (F : Nat) : Entry := ⟨224, [Tsiii, (.ptr Tsiii)], [(.bool, .no)], fun x => impl_ValidDoors_1 F x.1 x.2.1⟩
noncomputable def ls_impl_ValidDoors_1 (_F : Nat) : List (Nat × LoopFn) := []
noncomputable def E_impl_ValidDoors_1 (F : Nat) : Env := (E_impl_indexValid_Airway F).ext (en_impl_ValidDoors_1 F)
noncomputable def en_slices_IndexFunc_SDoor_Door (F : Nat) : Entry := ⟨265, [(.sl Tsiii), (.fn 224 (.prod (.ptr Tsiii) .unit))], [((.int .i64), .no)], fun x => slices_IndexFunc_SDoor_Door F x.1 x.2.1⟩
noncomputable def ls_slices_IndexFunc_SDoor_Door (F : Nat) : List (Nat × LoopFn) := [(0, slices_IndexFunc_SDoor_Door_l0 F)]
noncomputable def E_slices_IndexFunc_SDoor_Door (F : Nat) : Env := (E_impl_ValidDoors_1 F).ext (en_slices_IndexFunc_SDoor_Door F)
noncomputable def en_slices_ContainsFunc_SDoor_Door (F : Nat) : Entry := ⟨223, [(.sl Tsiii), (.fn 224 (.prod (.ptr Tsiii) .unit))], [(.bool, .no)], fun x => slices_ContainsFunc_SDoor_Door F x.1 x.2.1⟩
noncomputable def ls_slices_ContainsFunc_SDoor_Door (_F : Nat) : List (Nat × LoopFn) := []
noncomputable def E_slices_ContainsFunc_SDoor_Door (F : Nat) : Env := (E_slices_IndexFunc_SDoor_Door F).ext (en_slices_ContainsFunc_SDoor_Door F)
noncomputable def en_impl_ValidDoors (F : Nat) : Entry := ⟨163, [TiSqsiiiiiip, (.sl Tsiii)], [(.bool, .no)], fun x => impl_ValidDoors F x.1 x.2.1⟩
noncomputable def ls_impl_ValidDoors (F : Nat) : List (Nat × LoopFn) := [(0, impl_ValidDoors_l0 F)]
noncomputable def E_impl_ValidDoors (F : Nat) : Env := (E_slices_ContainsFunc_SDoor_Door F).ext (en_impl_ValidDoors F)
noncomputable def en_cmp_isNaN_int64 (F : Nat) : Entry := ⟨287, [(.int .i64)], [(.bool, .no)], fun x => cmp_isNaN_int64 F x.1⟩
noncomputable def ls_cmp_isNaN_int64 (_F : Nat) : List (Nat × LoopFn) := []
noncomputable def E_cmp_isNaN_int64 (F : Nat) : Env := (E_impl_ValidDoors F).ext (en_cmp_isNaN_int64 F)
noncomputable def en_cmp_Compare_int64 (F : Nat) : Entry := ⟨277, [(.int .i64), (.int .i64)], [((.int .i64), .no)], fun x => cmp_Compare_int64 F x.1 x.2.1⟩
noncomputable def ls_cmp_Compare_int64 (_F : Nat) : List (Nat × LoopFn) := []
noncomputable def E_cmp_Compare_int64 (F : Nat) : Env := (E_cmp_isNaN_int64 F).ext (en_cmp_Compare_int64 F)
noncomputable def en_slices_Compare_Sint64_int64 (F : Nat) : Entry := ⟨247, [(.sl (.int .i64)), (.sl (.int .i64))], [((.int .i64), .no)], fun x => slices_Compare_Sint64_int64 F x.1 x.2.1⟩
noncomputable def ls_slices_Compare_Sint64_int64 (F : Nat) : List (Nat × LoopFn) := [(0, slices_Compare_Sint64_int64_l0 F)]
noncomputable def E_slices_Compare_Sint64_int64 (F : Nat) : Env := (E_cmp_Compare_int64 F).ext (en_slices_Compare_Sint64_int64 F)
noncomputable def en_impl_ValidLocks (F : Nat) : Entry := ⟨202, [(.int .i64), (.sl (.sl (.int .i64)))], [(.bool, .no)], fun x => impl_ValidLocks F x.1 x.2.1⟩
noncomputable def ls_impl_ValidLocks (F : Nat) : List (Nat × LoopFn) := [(0, impl_ValidLocks_l0 F)]
noncomputable def E_impl_ValidLocks (F : Nat) : Env := (E_slices_Compare_Sint64_int64 F).ext (en_impl_ValidLocks F)
noncomputable def en_impl_ValidFan (F : Nat) : Entry := ⟨248, [TsiSSi], [(.bool, .no)], fun x => impl_ValidFan F x.1⟩
noncomputable def ls_impl_ValidFan (F : Nat) : List (Nat × LoopFn) := [(0, impl_ValidFan_l0 F)]
noncomputable def E_impl_ValidFan (F : Nat) : Env := (E_impl_ValidLocks F).ext (en_impl_ValidFan F)
noncomputable def en_impl_ValidFans (F : Nat) : Entry := ⟨203, [(.sl TsiSSi)], [(.bool, .no)], fun x => impl_ValidFans F x.1⟩
noncomputable def ls_impl_ValidFans (F : Nat) : List (Nat × LoopFn) := [(0, impl_ValidFans_l0 F)]
noncomputable def E_impl_ValidFans (F : Nat) : Env := (E_impl_ValidFan F).ext (en_impl_ValidFans F)
noncomputable def en_impl_Mine_hasFans_1 (F : Nat) : Entry := ⟨250, [TsiSSi, (.ptr TiSqsiiiiiip)], [(.bool, .no)], fun x => impl_Mine_hasFans_1 F x.1 x.2.1⟩
noncomputable def ls_impl_Mine_hasFans_1 (_F : Nat) : List (Nat × LoopFn) := []
noncomputable def E_impl_Mine_hasFans_1 (F : Nat) : Env := (E_impl_ValidFans F).ext (en_impl_Mine_hasFans_1 F)
noncomputable def en_slices_IndexFunc_SFan_Fan (F : Nat) : Entry := ⟨278, [(.sl TsiSSi), (.fn 250 (.prod (.ptr TiSqsiiiiiip) .unit))], [((.int .i64), .no)], fun x => slices_IndexFunc_SFan_Fan F x.1 x.2.1⟩
noncomputable def ls_slices_IndexFunc_SFan_Fan (F : Nat) : List (Nat × LoopFn) := [(0, slices_IndexFunc_SFan_Fan_l0 F)]
noncomputable def E_slices_IndexFunc_SFan_Fan (F : Nat) : Env := (E_impl_Mine_hasFans_1 F).ext (en_slices_IndexFunc_SFan_Fan F)
noncomputable def en_slices_ContainsFunc_SFan_Fan (F : Nat) : Entry := ⟨249, [(.sl TsiSSi), (.fn 250 (.prod (.ptr TiSqsiiiiiip) .unit))], [(.bool, .no)], fun x => slices_ContainsFunc_SFan_Fan F x.1 x.2.1⟩
noncomputable def ls_slices_ContainsFunc_SFan_Fan (_F : Nat) : List (Nat × LoopFn) := []
noncomputable def E_slices_ContainsFunc_SFan_Fan (F : Nat) : Env := (E_slices_IndexFunc_SFan_Fan F).ext (en_slices_ContainsFunc_SFan_Fan F)
noncomputable def en_impl_Mine_hasFans (F : Nat) : Entry := ⟨204, [TiSqsiiiiiip, (.sl TsiSSi)], [(.bool, .no)], fun x => impl_Mine_hasFans F x.1 x.2.1⟩
noncomputable def ls_impl_Mine_hasFans (_F : Nat) : List (Nat × LoopFn) := []
noncomputable def E_impl_Mine_hasFans (F : Nat) : Env := (E_slices_ContainsFunc_SFan_Fan F).ext (en_impl_Mine_hasFans F)
noncomputable def en_impl_allWithin_1 (F : Nat) : Entry := ⟨227, [(.int .i64), (.ptr (.int .i64)), (.ptr (.int .i64))], [(.bool, .no)], fun x => impl_allWithin_1 F x.1 x.2.1 x.2.2.1⟩
noncomputable def ls_impl_allWithin_1 (_F : Nat) : List (Nat × LoopFn) := []
noncomputable def E_impl_allWithin_1 (F : Nat) : Env := (E_impl_Mine_hasFans F).ext (en_impl_allWithin_1 F)
noncomputable def en_slices_IndexFunc_Sint64_int64 (F : Nat) : Entry := ⟨268, [(.sl (.int .i64)), (.fn 227 (.prod (.ptr (.int .i64)) (.prod (.ptr (.int .i64)) .unit)))], [((.int .i64), .no)], fun x => slices_IndexFunc_Sint64_int64 F x.1 x.2.1⟩
noncomputable def ls_slices_IndexFunc_Sint64_int64 (F : Nat) : List (Nat × LoopFn) := [(0, slices_IndexFunc_Sint64_int64_l0 F)]
noncomputable def E_slices_IndexFunc_Sint64_int64 (F : Nat) : Env := (E_impl_allWithin_1 F).ext (en_slices_IndexFunc_Sint64_int64 F)
noncomputable def en_slices_ContainsFunc_Sint64_int64 (F : Nat) : Entry := ⟨226, [(.sl (.int .i64)), (.fn 227 (.prod (.ptr (.int .i64)) (.prod (.ptr (.int .i64)) .unit)))], [(.bool, .no)], fun x => slices_ContainsFunc_Sint64_int64 F x.1 x.2.1⟩
noncomputable def ls_slices_ContainsFunc_Sint64_int64 (_F : Nat) : List (Nat × LoopFn) := []
noncomputable def E_slices_ContainsFunc_Sint64_int64 (F : Nat) : Env := (E_slices_IndexFunc_Sint64_int64 F).ext (en_slices_ContainsFunc_Sint64_int64 F)
noncomputable def en_impl_allWithin (F : Nat) : Entry := ⟨165, [(.sl (.int .i64)), (.int .i64), (.int .i64)], [(.bool, .no)], fun x => impl_allWithin F x.1 x.2.1 x.2.2.1⟩
noncomputable def ls_impl_allWithin (_F : Nat) : List (Nat × LoopFn) := []
noncomputable def E_impl_allWithin (F : Nat) : Env := (E_slices_ContainsFunc_Sint64_int64 F).ext (en_impl_allWithin F)
noncomputable def en_impl_Mine_hasList (F : Nat) : Entry := ⟨205, [TiSqsiiiiiip, (.sl (.int .i64)), (.int .i64), (.int .i64)], [(.bool, .no)], fun x => impl_Mine_hasList F x.1 x.2.1 x.2.2.1 x.2.2.2.1⟩
noncomputable def ls_impl_Mine_hasList (_F : Nat) : List (Nat × LoopFn) := []
noncomputable def E_impl_Mine_hasList (F : Nat) : Env := (E_impl_allWithin F).ext (en_impl_Mine_hasList F)
noncomputable def en_impl_ValidPlant (F : Nat) : Entry := ⟨138, [T9444c66c], [(.bool, .no)], fun x => impl_ValidPlant F x.1⟩
noncomputable def ls_impl_ValidPlant (_F : Nat) : List (Nat × LoopFn) := []
noncomputable def E_impl_ValidPlant (F : Nat) : Env := (E_impl_Mine_hasList F).ext (en_impl_ValidPlant F)
noncomputable def en_impl_Mine_hasFlows (F : Nat) : Entry := ⟨139, [TiSqsiiiiiip, (.sl (.int .i64))], [(.bool, .no)], fun x => impl_Mine_hasFlows F x.1 x.2.1⟩
noncomputable def ls_impl_Mine_hasFlows (_F : Nat) : List (Nat × LoopFn) := []
noncomputable def E_impl_Mine_hasFlows (F : Nat) : Env := (E_impl_ValidPlant F).ext (en_impl_Mine_hasFlows F)
noncomputable def en_impl_flowOk (F : Nat) : Entry := ⟨254, [(.int .i64)], [(.bool, .no)], fun x => impl_flowOk F x.1⟩
noncomputable def ls_impl_flowOk (_F : Nat) : List (Nat × LoopFn) := []
noncomputable def E_impl_flowOk (F : Nat) : Env := (E_impl_Mine_hasFlows F).ext (en_impl_flowOk F)
noncomputable def en_impl_Want_valid (F : Nat) : Entry := ⟨209, [Tiii], [(.bool, .no)], fun x => impl_Want_valid F x.1⟩
noncomputable def ls_impl_Want_valid (_F : Nat) : List (Nat × LoopFn) := []
noncomputable def E_impl_Want_valid (F : Nat) : Env := (E_impl_flowOk F).ext (en_impl_Want_valid F)
noncomputable def en_impl_ValidWants_1 (F : Nat) : Entry := ⟨208, [Tiii, (.ptr TiSqsiiiiiip)], [(.bool, .no)], fun x => impl_ValidWants_1 F x.1 x.2.1⟩
noncomputable def ls_impl_ValidWants_1 (_F : Nat) : List (Nat × LoopFn) := []
noncomputable def E_impl_ValidWants_1 (F : Nat) : Env := (E_impl_Want_valid F).ext (en_impl_ValidWants_1 F)
noncomputable def en_slices_IndexFunc_SWant_Want (F : Nat) : Entry := ⟨253, [(.sl Tiii), (.fn 208 (.prod (.ptr TiSqsiiiiiip) .unit))], [((.int .i64), .no)], fun x => slices_IndexFunc_SWant_Want F x.1 x.2.1⟩
noncomputable def ls_slices_IndexFunc_SWant_Want (F : Nat) : List (Nat × LoopFn) := [(0, slices_IndexFunc_SWant_Want_l0 F)]
noncomputable def E_slices_IndexFunc_SWant_Want (F : Nat) : Env := (E_impl_ValidWants_1 F).ext (en_slices_IndexFunc_SWant_Want F)
noncomputable def en_slices_ContainsFunc_SWant_Want (F : Nat) : Entry := ⟨207, [(.sl Tiii), (.fn 208 (.prod (.ptr TiSqsiiiiiip) .unit))], [(.bool, .no)], fun x => slices_ContainsFunc_SWant_Want F x.1 x.2.1⟩
noncomputable def ls_slices_ContainsFunc_SWant_Want (_F : Nat) : List (Nat × LoopFn) := []
noncomputable def E_slices_ContainsFunc_SWant_Want (F : Nat) : Env := (E_slices_IndexFunc_SWant_Want F).ext (en_slices_ContainsFunc_SWant_Want F)
noncomputable def en_impl_ValidWants (F : Nat) : Entry := ⟨140, [TiSqsiiiiiip, (.sl Tiii)], [(.bool, .no)], fun x => impl_ValidWants F x.1 x.2.1⟩
noncomputable def ls_impl_ValidWants (_F : Nat) : List (Nat × LoopFn) := []
noncomputable def E_impl_ValidWants (F : Nat) : Env := (E_slices_ContainsFunc_SWant_Want F).ext (en_impl_ValidWants F)
noncomputable def en_impl_rateOk (F : Nat) : Entry := ⟨256, [(.int .i64)], [(.bool, .no)], fun x => impl_rateOk F x.1⟩
noncomputable def ls_impl_rateOk (_F : Nat) : List (Nat × LoopFn) := []
noncomputable def E_impl_rateOk (F : Nat) : Env := (E_impl_ValidWants F).ext (en_impl_rateOk F)
noncomputable def en_impl_Source_valid (F : Nat) : Entry := ⟨211, [Tsii], [(.bool, .no)], fun x => impl_Source_valid F x.1⟩
noncomputable def ls_impl_Source_valid (_F : Nat) : List (Nat × LoopFn) := []
noncomputable def E_impl_Source_valid (F : Nat) : Env := (E_impl_rateOk F).ext (en_impl_Source_valid F)
noncomputable def en_impl_ValidSources (F : Nat) : Entry := ⟨141, [TiSqsiiiiiip, (.sl Tsii)], [(.bool, .no)], fun x => impl_ValidSources F x.1 x.2.1⟩
noncomputable def ls_impl_ValidSources (F : Nat) : List (Nat × LoopFn) := [(0, impl_ValidSources_l0 F)]
noncomputable def E_impl_ValidSources (F : Nat) : Env := (E_impl_Source_valid F).ext (en_impl_ValidSources F)
noncomputable def en_impl_Job_valid (F : Nat) : Entry := ⟨212, [Tsiii], [(.bool, .no)], fun x => impl_Job_valid F x.1⟩
noncomputable def ls_impl_Job_valid (_F : Nat) : List (Nat × LoopFn) := []
noncomputable def E_impl_Job_valid (F : Nat) : Env := (E_impl_ValidSources F).ext (en_impl_Job_valid F)
noncomputable def en_impl_ValidJobs (F : Nat) : Entry := ⟨142, [TiSqsiiiiiip, (.sl Tsiii)], [(.bool, .no)], fun x => impl_ValidJobs F x.1 x.2.1⟩
noncomputable def ls_impl_ValidJobs (F : Nat) : List (Nat × LoopFn) := [(0, impl_ValidJobs_l0 F)]
noncomputable def E_impl_ValidJobs (F : Nat) : Env := (E_impl_Job_valid F).ext (en_impl_ValidJobs F)
noncomputable def en_impl_Crew_valid (F : Nat) : Entry := ⟨213, [Tsii], [(.bool, .no)], fun x => impl_Crew_valid F x.1⟩
noncomputable def ls_impl_Crew_valid (_F : Nat) : List (Nat × LoopFn) := []
noncomputable def E_impl_Crew_valid (F : Nat) : Env := (E_impl_ValidJobs F).ext (en_impl_Crew_valid F)
noncomputable def en_impl_ValidCrews (F : Nat) : Entry := ⟨143, [TiSqsiiiiiip, (.sl Tsii)], [(.bool, .no)], fun x => impl_ValidCrews F x.1 x.2.1⟩
noncomputable def ls_impl_ValidCrews (F : Nat) : List (Nat × LoopFn) := [(0, impl_ValidCrews_l0 F)]
noncomputable def E_impl_ValidCrews (F : Nat) : Env := (E_impl_Crew_valid F).ext (en_impl_ValidCrews F)
noncomputable def en_impl_Fire_valid (F : Nat) : Entry := ⟨215, [Tiii], [(.bool, .no)], fun x => impl_Fire_valid F x.1⟩
noncomputable def ls_impl_Fire_valid (_F : Nat) : List (Nat × LoopFn) := []
noncomputable def E_impl_Fire_valid (F : Nat) : Env := (E_impl_ValidCrews F).ext (en_impl_Fire_valid F)
noncomputable def en_impl_ValidFire (F : Nat) : Entry := ⟨144, [TiSqsiiiiiip, Tiii], [(.bool, .no)], fun x => impl_ValidFire F x.1 x.2.1⟩
noncomputable def ls_impl_ValidFire (_F : Nat) : List (Nat × LoopFn) := []
noncomputable def E_impl_ValidFire (F : Nat) : Env := (E_impl_Fire_valid F).ext (en_impl_ValidFire F)
noncomputable def en_impl_RootOf_1 (F : Nat) : Entry := ⟨286, [(.int .i64), (.ptr (.int .i64))], [(.bool, .no)], fun x => impl_RootOf_1 F x.1 x.2.1⟩
noncomputable def ls_impl_RootOf_1 (_F : Nat) : List (Nat × LoopFn) := []
noncomputable def E_impl_RootOf_1 (F : Nat) : Env := (E_impl_ValidFire F).ext (en_impl_RootOf_1 F)
noncomputable def en_sort_Search (F : Nat) : Entry := ⟨285, [(.int .i64), (.fn 286 (.prod (.ptr (.int .i64)) .unit))], [((.int .i64), .no)], fun x => sort_Search F x.1 x.2.1⟩
noncomputable def ls_sort_Search (F : Nat) : List (Nat × LoopFn) := [(0, sort_Search_l0 F)]
noncomputable def E_sort_Search (F : Nat) : Env := (E_impl_RootOf_1 F).ext (en_sort_Search F)
noncomputable def en_impl_RootOf (F : Nat) : Entry := ⟨266, [(.int .i64)], [((.int .i64), .no)], fun x => impl_RootOf F x.1⟩
noncomputable def ls_impl_RootOf (_F : Nat) : List (Nat × LoopFn) := []
noncomputable def E_impl_RootOf (F : Nat) : Env := (E_sort_Search F).ext (en_impl_RootOf F)
noncomputable def en_impl_abs (F : Nat) : Entry := ⟨87, [(.int .i64)], [((.int .i64), .no)], fun x => impl_abs F x.1⟩
noncomputable def ls_impl_abs (_F : Nat) : List (Nat × LoopFn) := []
noncomputable def E_impl_abs (F : Nat) : Env := (E_impl_RootOf F).ext (en_impl_abs F)
noncomputable def en_impl_divRound (F : Nat) : Entry := ⟨267, [(.int .i64), (.int .i64)], [((.int .i64), .no)], fun x => impl_divRound F x.1 x.2.1⟩
noncomputable def ls_impl_divRound (_F : Nat) : List (Nat × LoopFn) := []
noncomputable def E_impl_divRound (F : Nat) : Env := (E_impl_abs F).ext (en_impl_divRound F)
noncomputable def en_impl_Airway_resistance (F : Nat) : Entry := ⟨225, [Tsiiiiii], [((.int .i64), .no)], fun x => impl_Airway_resistance F x.1⟩
noncomputable def ls_impl_Airway_resistance (_F : Nat) : List (Nat × LoopFn) := []
noncomputable def E_impl_Airway_resistance (F : Nat) : Env := (E_impl_divRound F).ext (en_impl_Airway_resistance F)
noncomputable def en_impl_ResistancesOf (F : Nat) : Entry := ⟨164, [TiSqsiiiiiip], [((.sl (.int .i64)), (.own none .no)), ((.int .i64), .no)], fun x => impl_ResistancesOf F x.1⟩
noncomputable def ls_impl_ResistancesOf (F : Nat) : List (Nat × LoopFn) := [(0, impl_ResistancesOf_l0 F)]
noncomputable def E_impl_ResistancesOf (F : Nat) : Env := (E_impl_Airway_resistance F).ext (en_impl_ResistancesOf F)
noncomputable def en_impl_OpenDoors (F : Nat) : Entry := ⟨104, [TiSqsiiiiiip, (.sl Tsiii), (.sl .bool)], [((.sl (.int .i64)), (.own none .no)), ((.int .i64), .no)], fun x => impl_OpenDoors F x.1 x.2.1 x.2.2.1⟩
noncomputable def ls_impl_OpenDoors (F : Nat) : List (Nat × LoopFn) := [(1, impl_OpenDoors_l0 F)]
noncomputable def E_impl_OpenDoors (F : Nat) : Env := (E_impl_ResistancesOf F).ext (en_impl_OpenDoors F)
noncomputable def en_impl_increasing (F : Nat) : Entry := ⟨216, [(.sl (.int .i64))], [(.bool, .no)], fun x => impl_increasing F x.1⟩
noncomputable def ls_impl_increasing (F : Nat) : List (Nat × LoopFn) := [(0, impl_increasing_l0 F)]
noncomputable def E_impl_increasing (F : Nat) : Env := (E_impl_OpenDoors F).ext (en_impl_increasing F)
noncomputable def en_impl_Mine_hasJunctions (F : Nat) : Entry := ⟨146, [TiSqsiiiiiip, (.sl (.int .i64))], [(.bool, .no)], fun x => impl_Mine_hasJunctions F x.1 x.2.1⟩
noncomputable def ls_impl_Mine_hasJunctions (_F : Nat) : List (Nat × LoopFn) := []
noncomputable def E_impl_Mine_hasJunctions (F : Nat) : Env := (E_impl_increasing F).ext (en_impl_Mine_hasJunctions F)
noncomputable def en_impl_ValidPlan (F : Nat) : Entry := ⟨82, [Tc66acf8c], [(.bool, .no)], fun x => impl_ValidPlan F x.1⟩
noncomputable def ls_impl_ValidPlan (_F : Nat) : List (Nat × LoopFn) := []
noncomputable def E_impl_ValidPlan (F : Nat) : Env := (E_impl_Mine_hasJunctions F).ext (en_impl_ValidPlan F)
noncomputable def en_impl_gasOf (F : Nat) : Entry := ⟨147, [(.sl Tsii), (.int .i64)], [((.int .i64), .no)], fun x => impl_gasOf F x.1 x.2.1⟩
noncomputable def ls_impl_gasOf (F : Nat) : List (Nat × LoopFn) := [(0, impl_gasOf_l0 F)]
noncomputable def E_impl_gasOf (F : Nat) : Env := (E_impl_ValidPlan F).ext (en_impl_gasOf F)
noncomputable def en_impl_Airway_ways (F : Nat) : Entry := ⟨148, [Tsiiiiii, (.int .i64)], [((.int .i64), .no), ((.int .i64), .no)], fun x => impl_Airway_ways F x.1 x.2.1⟩
noncomputable def ls_impl_Airway_ways (_F : Nat) : List (Nat × LoopFn) := []
noncomputable def E_impl_Airway_ways (F : Nat) : Env := (E_impl_gasOf F).ext (en_impl_Airway_ways F)
noncomputable def en_impl_divUp (F : Nat) : Entry := ⟨162, [(.int .i64), (.int .i64)], [((.int .i64), .no)], fun x => impl_divUp F x.1 x.2.1⟩
noncomputable def ls_impl_divUp (_F : Nat) : List (Nat × LoopFn) := []
noncomputable def E_impl_divUp (F : Nat) : Env := (E_impl_Airway_ways F).ext (en_impl_divUp F)
noncomputable def en_impl_shareOf (F : Nat) : Entry := ⟨149, [(.int .i64), (.int .i64)], [((.int .i64), .no)], fun x => impl_shareOf F x.1 x.2.1⟩
noncomputable def ls_impl_shareOf (_F : Nat) : List (Nat × LoopFn) := []
noncomputable def E_impl_shareOf (F : Nat) : Env := (E_impl_divUp F).ext (en_impl_shareOf F)
noncomputable def en_impl_Mine_endShares (F : Nat) : Entry := ⟨83, [TiSqsiiiiiip, (.sl (.int .i64)), (.sl Tsii), (.sl (.int .i64))], [((.sl (.int .i64)), (.own none .no))], fun x => impl_Mine_endShares F x.1 x.2.1 x.2.2.1 x.2.2.2.1⟩
noncomputable def ls_impl_Mine_endShares (F : Nat) : List (Nat × LoopFn) := [(0, impl_Mine_endShares_l0 F)]
noncomputable def E_impl_Mine_endShares (F : Nat) : Env := (E_impl_shareOf F).ext (en_impl_Mine_endShares F)
noncomputable def en_impl_mixShares (F : Nat) : Entry := ⟨150, [(.sl (.int .i64)), (.sl (.int .i64))], [((.int .i64), .no)], fun x => impl_mixShares F x.1 x.2.1⟩
noncomputable def ls_impl_mixShares (F : Nat) : List (Nat × LoopFn) := [(0, impl_mixShares_l0 F)]
noncomputable def E_impl_mixShares (F : Nat) : Env := (E_impl_Mine_endShares F).ext (en_impl_mixShares F)
noncomputable def en_impl_Mine_junctionShares (F : Nat) : Entry := ⟨84, [TiSqsiiiiiip, (.sl (.int .i64)), (.sl Tsii)], [((.sl (.int .i64)), (.own none .no))], fun x => impl_Mine_junctionShares F x.1 x.2.1 x.2.2.1⟩
noncomputable def ls_impl_Mine_junctionShares (F : Nat) : List (Nat × LoopFn) := [(0, impl_Mine_junctionShares_l0 F), (2, impl_Mine_junctionShares_l1 F), (4, impl_Mine_junctionShares_l2 F)]
noncomputable def E_impl_Mine_junctionShares (F : Nat) : Env := (E_impl_mixShares F).ext (en_impl_Mine_junctionShares F)
noncomputable def en_strconv_FormatInt (_F : Nat) : Entry := ⟨151, [(.int .i64), (.int .i64)], [(.str, .no)], fun x => libFormatInt x.1 x.2.1⟩
noncomputable def E_strconv_FormatInt (F : Nat) : Env := (E_impl_Mine_junctionShares F).ext (en_strconv_FormatInt F)
noncomputable def en_impl_Decimal (F : Nat) : Entry := ⟨85, [(.int .i64)], [(.str, .no)], fun x => impl_Decimal F x.1⟩
noncomputable def ls_impl_Decimal (_F : Nat) : List (Nat × LoopFn) := []
noncomputable def E_impl_Decimal (F : Nat) : Env := (E_strconv_FormatInt F).ext (en_impl_Decimal F)
noncomputable def en_impl_Job_need (F : Nat) : Entry := ⟨152, [Tsiii], [((.int .i64), .no)], fun x => impl_Job_need F x.1⟩
noncomputable def ls_impl_Job_need (_F : Nat) : List (Nat × LoopFn) := []
noncomputable def E_impl_Job_need (F : Nat) : Env := (E_impl_Decimal F).ext (en_impl_Job_need F)
noncomputable def en_impl_Mine_airNeeds (F : Nat) : Entry := ⟨86, [TiSqsiiiiiip, (.sl Tsiii)], [((.sl (.int .i64)), (.own none .no))], fun x => impl_Mine_airNeeds F x.1 x.2.1⟩
noncomputable def ls_impl_Mine_airNeeds (F : Nat) : List (Nat × LoopFn) := [(0, impl_Mine_airNeeds_l0 F)]
noncomputable def E_impl_Mine_airNeeds (F : Nat) : Env := (E_impl_Job_need F).ext (en_impl_Mine_airNeeds F)
noncomputable def en_impl_Want_miss (F : Nat) : Entry := ⟨88, [Tiii, (.sl (.int .i64))], [((.int .i64), .no)], fun x => impl_Want_miss F x.1 x.2.1⟩
noncomputable def ls_impl_Want_miss (_F : Nat) : List (Nat × LoopFn) := []
noncomputable def E_impl_Want_miss (F : Nat) : Env := (E_impl_Mine_airNeeds F).ext (en_impl_Want_miss F)
noncomputable def en_impl_loadProblems (F : Nat) : Entry := ⟨42, [Tc66acf8c], [((.sl Tiss), (.own none (.pr .no (.pr .no (.pr .no .no)))))], fun x => impl_loadProblems F x.1⟩
noncomputable def ls_impl_loadProblems (F : Nat) : List (Nat × LoopFn) := [(0, impl_loadProblems_l0 F), (2, impl_loadProblems_l1 F), (4, impl_loadProblems_l2 F)]
noncomputable def E_impl_loadProblems (F : Nat) : Env := (E_impl_Want_miss F).ext (en_impl_loadProblems F)
noncomputable def E_F_impl_loadProblems (F : Nat) : Env := (E_impl_loadProblems F).withF (en_impl_loadProblems F)
noncomputable def en_impl_planProblems (F : Nat) : Entry := ⟨41, [Tc66acf8c, (.sl .fnu)], [((.sl Tiss), (.own none (.pr .no (.pr .no (.pr .no .no))))), ((.int .i64), .no)], fun x => impl_planProblems F x.1 x.2.1⟩
noncomputable def ls_impl_planProblems (F : Nat) : List (Nat × LoopFn) := [(0, impl_planProblems_l0 F)]
noncomputable def E_impl_planProblems (F : Nat) : Env := (E_F_impl_loadProblems F).ext (en_impl_planProblems F)
noncomputable def en_impl_LoadProblems (F : Nat) : Entry := ⟨11, [Tc66acf8c], [((.sl Tiss), (.own none (.pr .no (.pr .no (.pr .no .no))))), ((.int .i64), .no)], fun x => impl_LoadProblems F x.1⟩
noncomputable def ls_impl_LoadProblems (_F : Nat) : List (Nat × LoopFn) := []
noncomputable def E_impl_LoadProblems (F : Nat) : Env := (E_impl_planProblems F).ext (en_impl_LoadProblems F)
noncomputable def en_laws_eqProblem (F : Nat) : Entry := ⟨43, [Tiss, Tiss], [(.bool, .no)], fun x => laws_eqProblem F x.1 x.2.1⟩
noncomputable def ls_laws_eqProblem (_F : Nat) : List (Nat × LoopFn) := []
noncomputable def E_laws_eqProblem (F : Nat) : Env := (E_impl_LoadProblems F).ext (en_laws_eqProblem F)
noncomputable def en_laws_eqProblemS (F : Nat) : Entry := ⟨12, [(.sl Tiss), (.sl Tiss)], [(.bool, .no)], fun x => laws_eqProblemS F x.1 x.2.1⟩
noncomputable def ls_laws_eqProblemS (F : Nat) : List (Nat × LoopFn) := [(0, laws_eqProblemS_l0 F)]
noncomputable def E_laws_eqProblemS (F : Nat) : Env := (E_laws_eqProblem F).ext (en_laws_eqProblemS F)
noncomputable def en_laws_eqAirway (F : Nat) : Entry := ⟨218, [Tsiiiiii, Tsiiiiii], [(.bool, .no)], fun x => laws_eqAirway F x.1 x.2.1⟩
noncomputable def ls_laws_eqAirway (_F : Nat) : List (Nat × LoopFn) := []
noncomputable def E_laws_eqAirway (F : Nat) : Env := (E_laws_eqProblemS F).ext (en_laws_eqAirway F)
noncomputable def en_laws_eqAirwayS (F : Nat) : Entry := ⟨153, [(.sl Tsiiiiii), (.sl Tsiiiiii)], [(.bool, .no)], fun x => laws_eqAirwayS F x.1 x.2.1⟩
noncomputable def ls_laws_eqAirwayS (F : Nat) : List (Nat × LoopFn) := [(0, laws_eqAirwayS_l0 F)]
noncomputable def E_laws_eqAirwayS (F : Nat) : Env := (E_laws_eqAirway F).ext (en_laws_eqAirwayS F)
noncomputable def en_laws_eqMine (F : Nat) : Entry := ⟨89, [TiSqsiiiiiip, TiSqsiiiiiip], [(.bool, .no)], fun x => laws_eqMine F x.1 x.2.1⟩
noncomputable def ls_laws_eqMine (_F : Nat) : List (Nat × LoopFn) := []
noncomputable def E_laws_eqMine (F : Nat) : Env := (E_laws_eqAirwayS F).ext (en_laws_eqMine F)
noncomputable def en_laws_eqDoor (F : Nat) : Entry := ⟨154, [Tsiii, Tsiii], [(.bool, .no)], fun x => laws_eqDoor F x.1 x.2.1⟩
noncomputable def ls_laws_eqDoor (_F : Nat) : List (Nat × LoopFn) := []
noncomputable def E_laws_eqDoor (F : Nat) : Env := (E_laws_eqMine F).ext (en_laws_eqDoor F)
noncomputable def en_laws_eqDoorS (F : Nat) : Entry := ⟨90, [(.sl Tsiii), (.sl Tsiii)], [(.bool, .no)], fun x => laws_eqDoorS F x.1 x.2.1⟩
noncomputable def ls_laws_eqDoorS (F : Nat) : List (Nat × LoopFn) := [(0, laws_eqDoorS_l0 F)]
noncomputable def E_laws_eqDoorS (F : Nat) : Env := (E_laws_eqDoor F).ext (en_laws_eqDoorS F)
noncomputable def en_laws_eqInt64S (F : Nat) : Entry := ⟨46, [(.sl (.int .i64)), (.sl (.int .i64))], [(.bool, .no)], fun x => laws_eqInt64S F x.1 x.2.1⟩
noncomputable def ls_laws_eqInt64S (F : Nat) : List (Nat × LoopFn) := [(0, laws_eqInt64S_l0 F)]
noncomputable def E_laws_eqInt64S (F : Nat) : Env := (E_laws_eqDoorS F).ext (en_laws_eqInt64S F)
noncomputable def en_laws_eqInt64SS (F : Nat) : Entry := ⟨91, [(.sl (.sl (.int .i64))), (.sl (.sl (.int .i64)))], [(.bool, .no)], fun x => laws_eqInt64SS F x.1 x.2.1⟩
noncomputable def ls_laws_eqInt64SS (F : Nat) : List (Nat × LoopFn) := [(0, laws_eqInt64SS_l0 F)]
noncomputable def E_laws_eqInt64SS (F : Nat) : Env := (E_laws_eqInt64S F).ext (en_laws_eqInt64SS F)
noncomputable def en_laws_eqFan (F : Nat) : Entry := ⟨155, [TsiSSi, TsiSSi], [(.bool, .no)], fun x => laws_eqFan F x.1 x.2.1⟩
noncomputable def ls_laws_eqFan (_F : Nat) : List (Nat × LoopFn) := []
noncomputable def E_laws_eqFan (F : Nat) : Env := (E_laws_eqInt64SS F).ext (en_laws_eqFan F)
noncomputable def en_laws_eqFanS (F : Nat) : Entry := ⟨92, [(.sl TsiSSi), (.sl TsiSSi)], [(.bool, .no)], fun x => laws_eqFanS F x.1 x.2.1⟩
noncomputable def ls_laws_eqFanS (F : Nat) : List (Nat × LoopFn) := [(0, laws_eqFanS_l0 F)]
noncomputable def E_laws_eqFanS (F : Nat) : Env := (E_laws_eqFan F).ext (en_laws_eqFanS F)
noncomputable def en_laws_eqPlant (F : Nat) : Entry := ⟨44, [T9444c66c, T9444c66c], [(.bool, .no)], fun x => laws_eqPlant F x.1 x.2.1⟩
noncomputable def ls_laws_eqPlant (_F : Nat) : List (Nat × LoopFn) := []
noncomputable def E_laws_eqPlant (F : Nat) : Env := (E_laws_eqFanS F).ext (en_laws_eqPlant F)
noncomputable def en_laws_eqBoolS (F : Nat) : Entry := ⟨45, [(.sl .bool), (.sl .bool)], [(.bool, .no)], fun x => laws_eqBoolS F x.1 x.2.1⟩
noncomputable def ls_laws_eqBoolS (F : Nat) : List (Nat × LoopFn) := [(0, laws_eqBoolS_l0 F)]
noncomputable def E_laws_eqBoolS (F : Nat) : Env := (E_laws_eqPlant F).ext (en_laws_eqBoolS F)
noncomputable def en_laws_eqWant (F : Nat) : Entry := ⟨93, [Tiii, Tiii], [(.bool, .no)], fun x => laws_eqWant F x.1 x.2.1⟩
noncomputable def ls_laws_eqWant (_F : Nat) : List (Nat × LoopFn) := []
noncomputable def E_laws_eqWant (F : Nat) : Env := (E_laws_eqBoolS F).ext (en_laws_eqWant F)
noncomputable def en_laws_eqWantS (F : Nat) : Entry := ⟨47, [(.sl Tiii), (.sl Tiii)], [(.bool, .no)], fun x => laws_eqWantS F x.1 x.2.1⟩
noncomputable def ls_laws_eqWantS (F : Nat) : List (Nat × LoopFn) := [(0, laws_eqWantS_l0 F)]
noncomputable def E_laws_eqWantS (F : Nat) : Env := (E_laws_eqWant F).ext (en_laws_eqWantS F)
noncomputable def en_laws_eqSource (F : Nat) : Entry := ⟨94, [Tsii, Tsii], [(.bool, .no)], fun x => laws_eqSource F x.1 x.2.1⟩
noncomputable def ls_laws_eqSource (_F : Nat) : List (Nat × LoopFn) := []
noncomputable def E_laws_eqSource (F : Nat) : Env := (E_laws_eqWantS F).ext (en_laws_eqSource F)
noncomputable def en_laws_eqSourceS (F : Nat) : Entry := ⟨48, [(.sl Tsii), (.sl Tsii)], [(.bool, .no)], fun x => laws_eqSourceS F x.1 x.2.1⟩
noncomputable def ls_laws_eqSourceS (F : Nat) : List (Nat × LoopFn) := [(0, laws_eqSourceS_l0 F)]
noncomputable def E_laws_eqSourceS (F : Nat) : Env := (E_laws_eqSource F).ext (en_laws_eqSourceS F)
noncomputable def en_laws_eqJob (F : Nat) : Entry := ⟨95, [Tsiii, Tsiii], [(.bool, .no)], fun x => laws_eqJob F x.1 x.2.1⟩
noncomputable def ls_laws_eqJob (_F : Nat) : List (Nat × LoopFn) := []
noncomputable def E_laws_eqJob (F : Nat) : Env := (E_laws_eqSourceS F).ext (en_laws_eqJob F)
noncomputable def en_laws_eqJobS (F : Nat) : Entry := ⟨49, [(.sl Tsiii), (.sl Tsiii)], [(.bool, .no)], fun x => laws_eqJobS F x.1 x.2.1⟩
noncomputable def ls_laws_eqJobS (F : Nat) : List (Nat × LoopFn) := [(0, laws_eqJobS_l0 F)]
noncomputable def E_laws_eqJobS (F : Nat) : Env := (E_laws_eqJob F).ext (en_laws_eqJobS F)
noncomputable def en_laws_eqCrew (F : Nat) : Entry := ⟨96, [Tsii, Tsii], [(.bool, .no)], fun x => laws_eqCrew F x.1 x.2.1⟩
noncomputable def ls_laws_eqCrew (_F : Nat) : List (Nat × LoopFn) := []
noncomputable def E_laws_eqCrew (F : Nat) : Env := (E_laws_eqJobS F).ext (en_laws_eqCrew F)
noncomputable def en_laws_eqCrewS (F : Nat) : Entry := ⟨50, [(.sl Tsii), (.sl Tsii)], [(.bool, .no)], fun x => laws_eqCrewS F x.1 x.2.1⟩
noncomputable def ls_laws_eqCrewS (F : Nat) : List (Nat × LoopFn) := [(0, laws_eqCrewS_l0 F)]
noncomputable def E_laws_eqCrewS (F : Nat) : Env := (E_laws_eqCrew F).ext (en_laws_eqCrewS F)
noncomputable def en_laws_eqFire (F : Nat) : Entry := ⟨51, [Tiii, Tiii], [(.bool, .no)], fun x => laws_eqFire F x.1 x.2.1⟩
noncomputable def ls_laws_eqFire (_F : Nat) : List (Nat × LoopFn) := []
noncomputable def E_laws_eqFire (F : Nat) : Env := (E_laws_eqCrewS F).ext (en_laws_eqFire F)
noncomputable def en_laws_eqPlan (F : Nat) : Entry := ⟨13, [Tc66acf8c, Tc66acf8c], [(.bool, .no)], fun x => laws_eqPlan F x.1 x.2.1⟩
noncomputable def ls_laws_eqPlan (_F : Nat) : List (Nat × LoopFn) := []
noncomputable def E_laws_eqPlan (F : Nat) : Env := (E_laws_eqFire F).ext (en_laws_eqPlan F)
noncomputable def en_laws_markText (F : Nat) : Entry := ⟨59, [(.int .i64)], [(.str, .no)], fun x => laws_markText F x.1⟩
noncomputable def ls_laws_markText (F : Nat) : List (Nat × LoopFn) := [(0, laws_markText_l0 F)]
noncomputable def E_laws_markText (F : Nat) : Env := (E_laws_eqPlan F).ext (en_laws_markText F)
noncomputable def en_laws_markAirwayS (F : Nat) : EntryW := ⟨156, (.sl Tsiiiiii), [(.int .i64)], [((.int .i64), .no)], fun x a => laws_markAirwayS F x a.1⟩
noncomputable def ls_laws_markAirwayS (F : Nat) : List (Nat × LoopFn) := [(0, laws_markAirwayS_l0 F)]
noncomputable def E_laws_markAirwayS (F : Nat) : Env := (E_laws_markText F).extW (en_laws_markAirwayS F)
noncomputable def en_laws_markMine (F : Nat) : EntryW := ⟨97, TiSqsiiiiiip, [(.int .i64)], [((.int .i64), .no)], fun x a => laws_markMine F x a.1⟩
noncomputable def ls_laws_markMine (_F : Nat) : List (Nat × LoopFn) := []
noncomputable def E_laws_markMine (F : Nat) : Env := (E_laws_markAirwayS F).extW (en_laws_markMine F)
noncomputable def en_laws_markDoorS (F : Nat) : EntryW := ⟨98, (.sl Tsiii), [(.int .i64)], [((.int .i64), .no)], fun x a => laws_markDoorS F x a.1⟩
noncomputable def ls_laws_markDoorS (F : Nat) : List (Nat × LoopFn) := [(0, laws_markDoorS_l0 F)]
noncomputable def E_laws_markDoorS (F : Nat) : Env := (E_laws_markMine F).extW (en_laws_markDoorS F)
noncomputable def en_laws_markInt64S (F : Nat) : EntryW := ⟨54, (.sl (.int .i64)), [(.int .i64)], [((.int .i64), .no)], fun x a => laws_markInt64S F x a.1⟩
noncomputable def ls_laws_markInt64S (F : Nat) : List (Nat × LoopFn) := [(0, laws_markInt64S_l0 F)]
noncomputable def E_laws_markInt64S (F : Nat) : Env := (E_laws_markDoorS F).extW (en_laws_markInt64S F)
noncomputable def en_laws_markInt64SS (F : Nat) : EntryW := ⟨99, (.sl (.sl (.int .i64))), [(.int .i64)], [((.int .i64), .no)], fun x a => laws_markInt64SS F x a.1⟩
noncomputable def ls_laws_markInt64SS (F : Nat) : List (Nat × LoopFn) := [(0, laws_markInt64SS_l0 F)]
noncomputable def E_laws_markInt64SS (F : Nat) : Env := (E_laws_markInt64S F).extW (en_laws_markInt64SS F)
noncomputable def en_laws_markFanS (F : Nat) : EntryW := ⟨100, (.sl TsiSSi), [(.int .i64)], [((.int .i64), .no)], fun x a => laws_markFanS F x a.1⟩
noncomputable def ls_laws_markFanS (F : Nat) : List (Nat × LoopFn) := [(0, laws_markFanS_l0 F)]
noncomputable def E_laws_markFanS (F : Nat) : Env := (E_laws_markInt64SS F).extW (en_laws_markFanS F)
noncomputable def en_laws_markPlant (F : Nat) : EntryW := ⟨52, T9444c66c, [(.int .i64)], [((.int .i64), .no)], fun x a => laws_markPlant F x a.1⟩
noncomputable def ls_laws_markPlant (_F : Nat) : List (Nat × LoopFn) := []
noncomputable def E_laws_markPlant (F : Nat) : Env := (E_laws_markFanS F).extW (en_laws_markPlant F)
noncomputable def en_laws_markBoolS (F : Nat) : EntryW := ⟨53, (.sl .bool), [(.int .i64)], [((.int .i64), .no)], fun x a => laws_markBoolS F x a.1⟩
noncomputable def ls_laws_markBoolS (F : Nat) : List (Nat × LoopFn) := [(0, laws_markBoolS_l0 F)]
noncomputable def E_laws_markBoolS (F : Nat) : Env := (E_laws_markPlant F).extW (en_laws_markBoolS F)
noncomputable def en_laws_markWantS (F : Nat) : EntryW := ⟨55, (.sl Tiii), [(.int .i64)], [((.int .i64), .no)], fun x a => laws_markWantS F x a.1⟩
noncomputable def ls_laws_markWantS (F : Nat) : List (Nat × LoopFn) := [(0, laws_markWantS_l0 F)]
noncomputable def E_laws_markWantS (F : Nat) : Env := (E_laws_markBoolS F).extW (en_laws_markWantS F)
noncomputable def en_laws_markSourceS (F : Nat) : EntryW := ⟨56, (.sl Tsii), [(.int .i64)], [((.int .i64), .no)], fun x a => laws_markSourceS F x a.1⟩
noncomputable def ls_laws_markSourceS (F : Nat) : List (Nat × LoopFn) := [(0, laws_markSourceS_l0 F)]
noncomputable def E_laws_markSourceS (F : Nat) : Env := (E_laws_markWantS F).extW (en_laws_markSourceS F)
noncomputable def en_laws_markJobS (F : Nat) : EntryW := ⟨57, (.sl Tsiii), [(.int .i64)], [((.int .i64), .no)], fun x a => laws_markJobS F x a.1⟩
noncomputable def ls_laws_markJobS (F : Nat) : List (Nat × LoopFn) := [(0, laws_markJobS_l0 F)]
noncomputable def E_laws_markJobS (F : Nat) : Env := (E_laws_markSourceS F).extW (en_laws_markJobS F)
noncomputable def en_laws_markCrewS (F : Nat) : EntryW := ⟨58, (.sl Tsii), [(.int .i64)], [((.int .i64), .no)], fun x a => laws_markCrewS F x a.1⟩
noncomputable def ls_laws_markCrewS (F : Nat) : List (Nat × LoopFn) := [(0, laws_markCrewS_l0 F)]
noncomputable def E_laws_markCrewS (F : Nat) : Env := (E_laws_markJobS F).extW (en_laws_markCrewS F)
noncomputable def en_laws_markPlan (F : Nat) : EntryW := ⟨14, Tc66acf8c, [(.int .i64)], [((.int .i64), .no)], fun x a => laws_markPlan F x a.1⟩
noncomputable def ls_laws_markPlan (_F : Nat) : List (Nat × LoopFn) := []
noncomputable def E_laws_markPlan (F : Nat) : Env := (E_laws_markCrewS F).extW (en_laws_markPlan F)
noncomputable def en_laws_markProblemS (F : Nat) : EntryW := ⟨15, (.sl Tiss), [(.int .i64)], [((.int .i64), .no)], fun x a => laws_markProblemS F x a.1⟩
noncomputable def ls_laws_markProblemS (F : Nat) : List (Nat × LoopFn) := [(0, laws_markProblemS_l0 F)]
noncomputable def E_laws_markProblemS (F : Nat) : Env := (E_laws_markPlan F).extW (en_laws_markProblemS F)
noncomputable def en_laws_heldProblemS (F : Nat) : Entry := ⟨16, [(.sl Tiss), (.int .i64)], [((.int .i64), .no)], fun x => laws_heldProblemS F x.1 x.2.1⟩
noncomputable def ls_laws_heldProblemS (F : Nat) : List (Nat × LoopFn) := [(0, laws_heldProblemS_l0 F)]
noncomputable def E_laws_heldProblemS (F : Nat) : Env := (E_laws_markProblemS F).ext (en_laws_heldProblemS F)
noncomputable def en_laws_FnExactLoadProblems (F : Nat) : Entry := ⟨3, [Tc66acf8c], [(.bool, .no)], fun x => laws_FnExactLoadProblems F x.1⟩
noncomputable def ls_laws_FnExactLoadProblems (_F : Nat) : List (Nat × LoopFn) := []
noncomputable def E_laws_FnExactLoadProblems (F : Nat) : Env := (E_laws_heldProblemS F).ext (en_laws_FnExactLoadProblems F)
end Go.Ev.Z
