/- A part of the proof: lemmas that the law's theorem uses; their conditions stand in each theorem. -/
import Derived.Test.YtaifdjmejglkgaaGreatDoorEvThree
namespace Go.Ev.Z
set_option maxRecDepth 100000
abbrev Tsss : Ty := (.prod .str (.prod .str (.prod .str .unit)))
abbrev TsiSSi : Ty := (.prod .str (.prod (.int .i64) (.prod (.sl (.sl (.int .i64))) .unit)))
abbrev Tsiii : Ty := (.prod .str (.prod (.int .i64) (.prod (.int .i64) (.prod (.int .i64) .unit))))
abbrev Tisiii : Ty := (.prod (.int .i64) Tsiii)
abbrev Tsiiii : Ty := (.prod .str (.prod (.int .i64) (.prod (.int .i64) (.prod (.int .i64) (.prod (.int .i64) .unit)))))
abbrev Tsiiiiii : Ty := (.prod .str (.prod (.int .i64) (.prod (.int .i64) (.prod (.int .i64) (.prod (.int .i64) (.prod (.int .i64) (.prod (.int .i64) .unit)))))))
abbrev TiSqsiiiiiip : Ty := (.prod (.int .i64) (.prod (.sl Tsiiiiii) .unit))
abbrev T5d55a700 : Ty := (.prod TiSqsiiiiiip (.prod (.sl (.int .i64)) (.prod (.sl (.int .i64)) (.prod (.sl TsiSSi) (.prod (.sl Tsiii) (.prod (.sl Tsiiii) (.prod (.sl Tsiiii) (.prod (.sl Tisiii) .unit))))))))
def tab : List (Nat × Ty × Nat) := [(2, (.int .i64), 0), (3, (.int .i64), 0), (4, .bool, 0), (5, (.int .u8), 0), (9, .str, 0), (24, (.sl Tsiiiiii), 64), (26, TiSqsiiiiiip, 0), (29, (.sl Tsss), 48), (36, (.sl Tsiiiiii), 64), (38, TiSqsiiiiiip, 0), (39, (.sl (.int .i64)), 8), (40, (.sl TsiSSi), 48), (41, (.sl Tsiii), 40), (42, (.sl Tsiiii), 48), (43, (.sl Tsiiii), 48), (44, (.sl Tisiii), 48), (46, T5d55a700, 0), (48, (.sl .str), 16), (51, (.sl TsiSSi), 48), (52, (.sl Tsiii), 40), (53, (.sl Tsiiii), 48), (54, (.sl Tsiiii), 48), (55, (.sl Tisiii), 48), (57, T5d55a700, 0), (69, Tsss, 0), (71, Tsiiiiii, 0), (88, (.ptr T5d55a700), 0), (89, (.sl (.int .i64)), 8), (117, (.ptr Tsiiiiii), 0), (125, (.sl (.int .u8)), 1), (128, (.sl (.sl (.int .i64))), 24), (130, TsiSSi, 0), (133, Tsiii, 0), (136, Tsiiii, 0), (139, Tsiiii, 0), (142, Tisiii, 0), (144, (.ptr TiSqsiiiiiip), 0), (153, TsiSSi, 0), (155, Tsiii, 0), (157, Tsiiii, 0), (159, Tsiiii, 0), (161, Tisiii, 0), (185, Tsiiiiii, 0), (188, (.ptr TsiSSi), 0), (190, (.ptr Tsiii), 0), (192, (.ptr Tsiiii), 0), (194, (.ptr Tsiiii), 0), (196, (.ptr Tisiii), 0)]
/-- loop.example/g01021/laws.szAirway -/
def laws_szAirway (F : Nat) (x0 : El Tsiiiiii) (x1 : El (.int .i64)) : Option (Outs [((.int .i64), .no)]) :=
  cond (decide ((IntKind.i64.wrap (x1 - (x0.1.size : Int))) < (0 : Int))) (some ((-1 : Int), ())) (some (IntKind.i64.wrap (x1 - (x0.1.size : Int)), ()))
abbrev laws_szAirwayS_l0s : List Sh := [.val (.sl Tsiiiiii) .no, .val (.int .i64) .no, .dead, .dead, .dead, .val (.int .i64) .no, .dead, .dead, .dead, .dead, .dead, .dead, .dead, .dead, .dead, .dead, .dead, .dead, .dead, .dead, .dead, .dead, .dead, .dead, .dead, .dead, .dead]
abbrev laws_szAirwayS_l0o : List (Ex × List Sh) := [(.ret, [.dead, .dead, .dead, .dead, .val (.int .i64) .no, .dead, .dead, .dead, .dead, .dead, .dead, .dead, .dead, .dead, .dead, .dead, .dead, .dead, .dead, .dead, .dead, .dead, .dead, .dead, .dead, .dead, .dead]), (.exit 0, [.dead, .val (.int .i64) .no, .dead, .dead, .dead, .dead, .dead, .dead, .dead, .dead, .dead, .dead, .dead, .dead, .dead, .dead, .dead, .dead, .dead, .dead, .dead, .dead, .dead, .dead, .dead, .dead, .dead])]
def laws_szAirwayS_l0_step {β : Type} (F : Nat) (k0 : El (.int .i64) × Unit → Option β) (k1 : El (.int .i64) × Unit → Option β) (rec : El (.sl Tsiiiiii) × El (.int .i64) × El (.int .i64) × Unit → Option β) (x : El (.sl Tsiiiiii) × El (.int .i64) × El (.int .i64) × Unit) : Option β :=
  cond (decide (x.2.2.1 < (x.1.length : Int))) (obind (rdAt x.1 x.2.2.1) fun v1 => obind (laws_szAirway F v1 x.2.1) fun r2 => cond (decide (r2.1 < (0 : Int))) (k0 ((-1 : Int), ())) (rec (x.1, r2.1, IntKind.i64.wrap (x.2.2.1 + (1 : Int)), ()))) (k1 (x.2.1, ()))
def laws_szAirwayS_l0 (F : Nat) : LoopFn where
  n := 27
  sh := laws_szAirwayS_l0s
  outs := laws_szAirwayS_l0o
  es := [.ret, .exit 0]
  step := fun rec K x => laws_szAirwayS_l0_step F K.1 K.2.1 rec x
/-- loop.example/g01021/laws.szAirwayS -/
def laws_szAirwayS (F : Nat) (x0 : El (.sl Tsiiiiii)) (x1 : El (.int .i64)) : Option (Outs [((.int .i64), .no)]) :=
  cond (decide ((IntKind.i64.wrap (x1 - (x0.length : Int))) < (0 : Int))) (some ((-1 : Int), ())) (runP (laws_szAirwayS_l0_step F (fun y3 => some (y3.1, ())) (fun y3 => some (y3.1, ()))) none F (x0, IntKind.i64.wrap (x1 - (x0.length : Int)), (0 : Int), ()))
/-- loop.example/g01021/laws.szMine -/
def laws_szMine (F : Nat) (x0 : El TiSqsiiiiiip) (x1 : El (.int .i64)) : Option (Outs [((.int .i64), .no)]) :=
  obind (laws_szAirwayS F x0.2.1 x1) fun r1 => cond (decide (r1.1 < (0 : Int))) (some ((-1 : Int), ())) (some (r1.1, ()))
/-- loop.example/g01021/laws.szInt64S -/
def laws_szInt64S (F : Nat) (x0 : El (.sl (.int .i64))) (x1 : El (.int .i64)) : Option (Outs [((.int .i64), .no)]) :=
  cond (decide ((IntKind.i64.wrap (x1 - (x0.length : Int))) < (0 : Int))) (some ((-1 : Int), ())) (some (IntKind.i64.wrap (x1 - (x0.length : Int)), ()))
abbrev laws_szInt64SS_l0s : List Sh := [.val (.sl (.sl (.int .i64))) .no, .val (.int .i64) .no, .dead, .dead, .dead, .val (.int .i64) .no, .dead, .dead, .dead, .dead, .dead, .dead, .dead, .dead, .dead, .dead, .dead, .dead, .dead, .dead, .dead, .dead, .dead, .dead, .dead, .dead, .dead]
abbrev laws_szInt64SS_l0o : List (Ex × List Sh) := [(.ret, [.dead, .dead, .dead, .dead, .val (.int .i64) .no, .dead, .dead, .dead, .dead, .dead, .dead, .dead, .dead, .dead, .dead, .dead, .dead, .dead, .dead, .dead, .dead, .dead, .dead, .dead, .dead, .dead, .dead]), (.exit 0, [.dead, .val (.int .i64) .no, .dead, .dead, .dead, .dead, .dead, .dead, .dead, .dead, .dead, .dead, .dead, .dead, .dead, .dead, .dead, .dead, .dead, .dead, .dead, .dead, .dead, .dead, .dead, .dead, .dead])]
def laws_szInt64SS_l0_step {β : Type} (F : Nat) (k0 : El (.int .i64) × Unit → Option β) (k1 : El (.int .i64) × Unit → Option β) (rec : El (.sl (.sl (.int .i64))) × El (.int .i64) × El (.int .i64) × Unit → Option β) (x : El (.sl (.sl (.int .i64))) × El (.int .i64) × El (.int .i64) × Unit) : Option β :=
  cond (decide (x.2.2.1 < (x.1.length : Int))) (obind (rdAt x.1 x.2.2.1) fun v1 => obind (laws_szInt64S F v1 x.2.1) fun r2 => cond (decide (r2.1 < (0 : Int))) (k0 ((-1 : Int), ())) (rec (x.1, r2.1, IntKind.i64.wrap (x.2.2.1 + (1 : Int)), ()))) (k1 (x.2.1, ()))
def laws_szInt64SS_l0 (F : Nat) : LoopFn where
  n := 27
  sh := laws_szInt64SS_l0s
  outs := laws_szInt64SS_l0o
  es := [.ret, .exit 0]
  step := fun rec K x => laws_szInt64SS_l0_step F K.1 K.2.1 rec x
/-- loop.example/g01021/laws.szInt64SS -/
def laws_szInt64SS (F : Nat) (x0 : El (.sl (.sl (.int .i64)))) (x1 : El (.int .i64)) : Option (Outs [((.int .i64), .no)]) :=
  cond (decide ((IntKind.i64.wrap (x1 - (x0.length : Int))) < (0 : Int))) (some ((-1 : Int), ())) (runP (laws_szInt64SS_l0_step F (fun y3 => some (y3.1, ())) (fun y3 => some (y3.1, ()))) none F (x0, IntKind.i64.wrap (x1 - (x0.length : Int)), (0 : Int), ()))
/-- loop.example/g01021/laws.szFan -/
def laws_szFan (F : Nat) (x0 : El TsiSSi) (x1 : El (.int .i64)) : Option (Outs [((.int .i64), .no)]) :=
  cond (decide ((IntKind.i64.wrap (x1 - (x0.1.size : Int))) < (0 : Int))) (some ((-1 : Int), ())) (obind (laws_szInt64SS F x0.2.2.1 (IntKind.i64.wrap (x1 - (x0.1.size : Int)))) fun r1 => cond (decide (r1.1 < (0 : Int))) (some ((-1 : Int), ())) (some (r1.1, ())))
abbrev laws_szFanS_l0s : List Sh := [.val (.sl TsiSSi) .no, .val (.int .i64) .no, .dead, .dead, .dead, .val (.int .i64) .no, .dead, .dead, .dead, .dead, .dead, .dead, .dead, .dead, .dead, .dead, .dead, .dead, .dead, .dead, .dead, .dead, .dead, .dead, .dead, .dead, .dead]
abbrev laws_szFanS_l0o : List (Ex × List Sh) := [(.ret, [.dead, .dead, .dead, .dead, .val (.int .i64) .no, .dead, .dead, .dead, .dead, .dead, .dead, .dead, .dead, .dead, .dead, .dead, .dead, .dead, .dead, .dead, .dead, .dead, .dead, .dead, .dead, .dead, .dead]), (.exit 0, [.dead, .val (.int .i64) .no, .dead, .dead, .dead, .dead, .dead, .dead, .dead, .dead, .dead, .dead, .dead, .dead, .dead, .dead, .dead, .dead, .dead, .dead, .dead, .dead, .dead, .dead, .dead, .dead, .dead])]
def laws_szFanS_l0_step {β : Type} (F : Nat) (k0 : El (.int .i64) × Unit → Option β) (k1 : El (.int .i64) × Unit → Option β) (rec : El (.sl TsiSSi) × El (.int .i64) × El (.int .i64) × Unit → Option β) (x : El (.sl TsiSSi) × El (.int .i64) × El (.int .i64) × Unit) : Option β :=
  cond (decide (x.2.2.1 < (x.1.length : Int))) (obind (rdAt x.1 x.2.2.1) fun v1 => obind (laws_szFan F v1 x.2.1) fun r2 => cond (decide (r2.1 < (0 : Int))) (k0 ((-1 : Int), ())) (rec (x.1, r2.1, IntKind.i64.wrap (x.2.2.1 + (1 : Int)), ()))) (k1 (x.2.1, ()))
def laws_szFanS_l0 (F : Nat) : LoopFn where
  n := 27
  sh := laws_szFanS_l0s
  outs := laws_szFanS_l0o
  es := [.ret, .exit 0]
  step := fun rec K x => laws_szFanS_l0_step F K.1 K.2.1 rec x
/-- loop.example/g01021/laws.szFanS -/
def laws_szFanS (F : Nat) (x0 : El (.sl TsiSSi)) (x1 : El (.int .i64)) : Option (Outs [((.int .i64), .no)]) :=
  cond (decide ((IntKind.i64.wrap (x1 - (x0.length : Int))) < (0 : Int))) (some ((-1 : Int), ())) (runP (laws_szFanS_l0_step F (fun y3 => some (y3.1, ())) (fun y3 => some (y3.1, ()))) none F (x0, IntKind.i64.wrap (x1 - (x0.length : Int)), (0 : Int), ()))
/-- loop.example/g01021/laws.szRefuge -/
def laws_szRefuge (F : Nat) (x0 : El Tsiii) (x1 : El (.int .i64)) : Option (Outs [((.int .i64), .no)]) :=
  cond (decide ((IntKind.i64.wrap (x1 - (x0.1.size : Int))) < (0 : Int))) (some ((-1 : Int), ())) (some (IntKind.i64.wrap (x1 - (x0.1.size : Int)), ()))
abbrev laws_szRefugeS_l0s : List Sh := [.val (.sl Tsiii) .no, .val (.int .i64) .no, .dead, .dead, .dead, .val (.int .i64) .no, .dead, .dead, .dead, .dead, .dead, .dead, .dead, .dead, .dead, .dead, .dead, .dead, .dead, .dead, .dead, .dead, .dead, .dead, .dead, .dead, .dead]
abbrev laws_szRefugeS_l0o : List (Ex × List Sh) := [(.ret, [.dead, .dead, .dead, .dead, .val (.int .i64) .no, .dead, .dead, .dead, .dead, .dead, .dead, .dead, .dead, .dead, .dead, .dead, .dead, .dead, .dead, .dead, .dead, .dead, .dead, .dead, .dead, .dead, .dead]), (.exit 0, [.dead, .val (.int .i64) .no, .dead, .dead, .dead, .dead, .dead, .dead, .dead, .dead, .dead, .dead, .dead, .dead, .dead, .dead, .dead, .dead, .dead, .dead, .dead, .dead, .dead, .dead, .dead, .dead, .dead])]
def laws_szRefugeS_l0_step {β : Type} (F : Nat) (k0 : El (.int .i64) × Unit → Option β) (k1 : El (.int .i64) × Unit → Option β) (rec : El (.sl Tsiii) × El (.int .i64) × El (.int .i64) × Unit → Option β) (x : El (.sl Tsiii) × El (.int .i64) × El (.int .i64) × Unit) : Option β :=
  cond (decide (x.2.2.1 < (x.1.length : Int))) (obind (rdAt x.1 x.2.2.1) fun v1 => obind (laws_szRefuge F v1 x.2.1) fun r2 => cond (decide (r2.1 < (0 : Int))) (k0 ((-1 : Int), ())) (rec (x.1, r2.1, IntKind.i64.wrap (x.2.2.1 + (1 : Int)), ()))) (k1 (x.2.1, ()))
def laws_szRefugeS_l0 (F : Nat) : LoopFn where
  n := 27
  sh := laws_szRefugeS_l0s
  outs := laws_szRefugeS_l0o
  es := [.ret, .exit 0]
  step := fun rec K x => laws_szRefugeS_l0_step F K.1 K.2.1 rec x
/-- loop.example/g01021/laws.szRefugeS -/
def laws_szRefugeS (F : Nat) (x0 : El (.sl Tsiii)) (x1 : El (.int .i64)) : Option (Outs [((.int .i64), .no)]) :=
  cond (decide ((IntKind.i64.wrap (x1 - (x0.length : Int))) < (0 : Int))) (some ((-1 : Int), ())) (runP (laws_szRefugeS_l0_step F (fun y3 => some (y3.1, ())) (fun y3 => some (y3.1, ()))) none F (x0, IntKind.i64.wrap (x1 - (x0.length : Int)), (0 : Int), ()))
/-- loop.example/g01021/laws.szSensor -/
def laws_szSensor (F : Nat) (x0 : El Tsiiii) (x1 : El (.int .i64)) : Option (Outs [((.int .i64), .no)]) :=
  cond (decide ((IntKind.i64.wrap (x1 - (x0.1.size : Int))) < (0 : Int))) (some ((-1 : Int), ())) (some (IntKind.i64.wrap (x1 - (x0.1.size : Int)), ()))
abbrev laws_szSensorS_l0s : List Sh := [.val (.sl Tsiiii) .no, .val (.int .i64) .no, .dead, .dead, .dead, .val (.int .i64) .no, .dead, .dead, .dead, .dead, .dead, .dead, .dead, .dead, .dead, .dead, .dead, .dead, .dead, .dead, .dead, .dead, .dead, .dead, .dead, .dead, .dead]
abbrev laws_szSensorS_l0o : List (Ex × List Sh) := [(.ret, [.dead, .dead, .dead, .dead, .val (.int .i64) .no, .dead, .dead, .dead, .dead, .dead, .dead, .dead, .dead, .dead, .dead, .dead, .dead, .dead, .dead, .dead, .dead, .dead, .dead, .dead, .dead, .dead, .dead]), (.exit 0, [.dead, .val (.int .i64) .no, .dead, .dead, .dead, .dead, .dead, .dead, .dead, .dead, .dead, .dead, .dead, .dead, .dead, .dead, .dead, .dead, .dead, .dead, .dead, .dead, .dead, .dead, .dead, .dead, .dead])]
def laws_szSensorS_l0_step {β : Type} (F : Nat) (k0 : El (.int .i64) × Unit → Option β) (k1 : El (.int .i64) × Unit → Option β) (rec : El (.sl Tsiiii) × El (.int .i64) × El (.int .i64) × Unit → Option β) (x : El (.sl Tsiiii) × El (.int .i64) × El (.int .i64) × Unit) : Option β :=
  cond (decide (x.2.2.1 < (x.1.length : Int))) (obind (rdAt x.1 x.2.2.1) fun v1 => obind (laws_szSensor F v1 x.2.1) fun r2 => cond (decide (r2.1 < (0 : Int))) (k0 ((-1 : Int), ())) (rec (x.1, r2.1, IntKind.i64.wrap (x.2.2.1 + (1 : Int)), ()))) (k1 (x.2.1, ()))
def laws_szSensorS_l0 (F : Nat) : LoopFn where
  n := 27
  sh := laws_szSensorS_l0s
  outs := laws_szSensorS_l0o
  es := [.ret, .exit 0]
  step := fun rec K x => laws_szSensorS_l0_step F K.1 K.2.1 rec x
/-- loop.example/g01021/laws.szSensorS -/
def laws_szSensorS (F : Nat) (x0 : El (.sl Tsiiii)) (x1 : El (.int .i64)) : Option (Outs [((.int .i64), .no)]) :=
  cond (decide ((IntKind.i64.wrap (x1 - (x0.length : Int))) < (0 : Int))) (some ((-1 : Int), ())) (runP (laws_szSensorS_l0_step F (fun y3 => some (y3.1, ())) (fun y3 => some (y3.1, ()))) none F (x0, IntKind.i64.wrap (x1 - (x0.length : Int)), (0 : Int), ()))
/-- loop.example/g01021/laws.szPermit -/
def laws_szPermit (F : Nat) (x0 : El Tsiiii) (x1 : El (.int .i64)) : Option (Outs [((.int .i64), .no)]) :=
  cond (decide ((IntKind.i64.wrap (x1 - (x0.1.size : Int))) < (0 : Int))) (some ((-1 : Int), ())) (some (IntKind.i64.wrap (x1 - (x0.1.size : Int)), ()))
abbrev laws_szPermitS_l0s : List Sh := [.val (.sl Tsiiii) .no, .val (.int .i64) .no, .dead, .dead, .dead, .val (.int .i64) .no, .dead, .dead, .dead, .dead, .dead, .dead, .dead, .dead, .dead, .dead, .dead, .dead, .dead, .dead, .dead, .dead, .dead, .dead, .dead, .dead, .dead]
abbrev laws_szPermitS_l0o : List (Ex × List Sh) := [(.ret, [.dead, .dead, .dead, .dead, .val (.int .i64) .no, .dead, .dead, .dead, .dead, .dead, .dead, .dead, .dead, .dead, .dead, .dead, .dead, .dead, .dead, .dead, .dead, .dead, .dead, .dead, .dead, .dead, .dead]), (.exit 0, [.dead, .val (.int .i64) .no, .dead, .dead, .dead, .dead, .dead, .dead, .dead, .dead, .dead, .dead, .dead, .dead, .dead, .dead, .dead, .dead, .dead, .dead, .dead, .dead, .dead, .dead, .dead, .dead, .dead])]
def laws_szPermitS_l0_step {β : Type} (F : Nat) (k0 : El (.int .i64) × Unit → Option β) (k1 : El (.int .i64) × Unit → Option β) (rec : El (.sl Tsiiii) × El (.int .i64) × El (.int .i64) × Unit → Option β) (x : El (.sl Tsiiii) × El (.int .i64) × El (.int .i64) × Unit) : Option β :=
  cond (decide (x.2.2.1 < (x.1.length : Int))) (obind (rdAt x.1 x.2.2.1) fun v1 => obind (laws_szPermit F v1 x.2.1) fun r2 => cond (decide (r2.1 < (0 : Int))) (k0 ((-1 : Int), ())) (rec (x.1, r2.1, IntKind.i64.wrap (x.2.2.1 + (1 : Int)), ()))) (k1 (x.2.1, ()))
def laws_szPermitS_l0 (F : Nat) : LoopFn where
  n := 27
  sh := laws_szPermitS_l0s
  outs := laws_szPermitS_l0o
  es := [.ret, .exit 0]
  step := fun rec K x => laws_szPermitS_l0_step F K.1 K.2.1 rec x
/-- loop.example/g01021/laws.szPermitS -/
def laws_szPermitS (F : Nat) (x0 : El (.sl Tsiiii)) (x1 : El (.int .i64)) : Option (Outs [((.int .i64), .no)]) :=
  cond (decide ((IntKind.i64.wrap (x1 - (x0.length : Int))) < (0 : Int))) (some ((-1 : Int), ())) (runP (laws_szPermitS_l0_step F (fun y3 => some (y3.1, ())) (fun y3 => some (y3.1, ()))) none F (x0, IntKind.i64.wrap (x1 - (x0.length : Int)), (0 : Int), ()))
/-- loop.example/g01021/laws.szDrill -/
def laws_szDrill (F : Nat) (x0 : El Tisiii) (x1 : El (.int .i64)) : Option (Outs [((.int .i64), .no)]) :=
  cond (decide ((IntKind.i64.wrap (x1 - (x0.2.1.size : Int))) < (0 : Int))) (some ((-1 : Int), ())) (some (IntKind.i64.wrap (x1 - (x0.2.1.size : Int)), ()))
abbrev laws_szDrillS_l0s : List Sh := [.val (.sl Tisiii) .no, .val (.int .i64) .no, .dead, .dead, .dead, .val (.int .i64) .no, .dead, .dead, .dead, .dead, .dead, .dead, .dead, .dead, .dead, .dead, .dead, .dead, .dead, .dead, .dead, .dead, .dead, .dead, .dead, .dead, .dead]
abbrev laws_szDrillS_l0o : List (Ex × List Sh) := [(.ret, [.dead, .dead, .dead, .dead, .val (.int .i64) .no, .dead, .dead, .dead, .dead, .dead, .dead, .dead, .dead, .dead, .dead, .dead, .dead, .dead, .dead, .dead, .dead, .dead, .dead, .dead, .dead, .dead, .dead]), (.exit 0, [.dead, .val (.int .i64) .no, .dead, .dead, .dead, .dead, .dead, .dead, .dead, .dead, .dead, .dead, .dead, .dead, .dead, .dead, .dead, .dead, .dead, .dead, .dead, .dead, .dead, .dead, .dead, .dead, .dead])]
def laws_szDrillS_l0_step {β : Type} (F : Nat) (k0 : El (.int .i64) × Unit → Option β) (k1 : El (.int .i64) × Unit → Option β) (rec : El (.sl Tisiii) × El (.int .i64) × El (.int .i64) × Unit → Option β) (x : El (.sl Tisiii) × El (.int .i64) × El (.int .i64) × Unit) : Option β :=
  cond (decide (x.2.2.1 < (x.1.length : Int))) (obind (rdAt x.1 x.2.2.1) fun v1 => obind (laws_szDrill F v1 x.2.1) fun r2 => cond (decide (r2.1 < (0 : Int))) (k0 ((-1 : Int), ())) (rec (x.1, r2.1, IntKind.i64.wrap (x.2.2.1 + (1 : Int)), ()))) (k1 (x.2.1, ()))
def laws_szDrillS_l0 (F : Nat) : LoopFn where
  n := 27
  sh := laws_szDrillS_l0s
  outs := laws_szDrillS_l0o
  es := [.ret, .exit 0]
  step := fun rec K x => laws_szDrillS_l0_step F K.1 K.2.1 rec x
/-- loop.example/g01021/laws.szDrillS -/
def laws_szDrillS (F : Nat) (x0 : El (.sl Tisiii)) (x1 : El (.int .i64)) : Option (Outs [((.int .i64), .no)]) :=
  cond (decide ((IntKind.i64.wrap (x1 - (x0.length : Int))) < (0 : Int))) (some ((-1 : Int), ())) (runP (laws_szDrillS_l0_step F (fun y3 => some (y3.1, ())) (fun y3 => some (y3.1, ()))) none F (x0, IntKind.i64.wrap (x1 - (x0.length : Int)), (0 : Int), ()))
/-- loop.example/g01021/laws.szDesk -/
def laws_szDesk (F : Nat) (x0 : El T5d55a700) (x1 : El (.int .i64)) : Option (Outs [((.int .i64), .no)]) :=
  obind (laws_szMine F x0.1 x1) fun r1 => cond (decide (r1.1 < (0 : Int))) (some ((-1 : Int), ())) (obind (laws_szInt64S F x0.2.1 r1.1) fun r2 => cond (decide (r2.1 < (0 : Int))) (some ((-1 : Int), ())) (obind (laws_szInt64S F x0.2.2.1 r2.1) fun r3 => cond (decide (r3.1 < (0 : Int))) (some ((-1 : Int), ())) (obind (laws_szFanS F x0.2.2.2.1 r3.1) fun r4 => cond (decide (r4.1 < (0 : Int))) (some ((-1 : Int), ())) (obind (laws_szRefugeS F x0.2.2.2.2.1 r4.1) fun r5 => cond (decide (r5.1 < (0 : Int))) (some ((-1 : Int), ())) (obind (laws_szSensorS F x0.2.2.2.2.2.1 r5.1) fun r6 => cond (decide (r6.1 < (0 : Int))) (some ((-1 : Int), ())) (obind (laws_szPermitS F x0.2.2.2.2.2.2.1 r6.1) fun r7 => cond (decide (r7.1 < (0 : Int))) (some ((-1 : Int), ())) (obind (laws_szDrillS F x0.2.2.2.2.2.2.2.1 r7.1) fun r8 => cond (decide (r8.1 < (0 : Int))) (some ((-1 : Int), ())) (some (r8.1, ())))))))))
/-- loop.example/g01021/laws.toAirway -/
def laws_toAirway (F : Nat) (x0 : El Tsiiiiii) : Option (Outs [(Tsiiiiii, (.pr .no (.pr .no (.pr .no (.pr .no (.pr .no (.pr .no (.pr .no .no))))))))]) :=
  some ((x0.1, (x0.2.1, (x0.2.2.1, (x0.2.2.2.1, (x0.2.2.2.2.1, (x0.2.2.2.2.2.1, (x0.2.2.2.2.2.2.1, ()))))))), ())
abbrev laws_toAirwayS_l0s : List Sh := [.val (.sl Tsiiiiii) .no, .dead, .dead, .val (.sl Tsiiiiii) (.own none .no), .val (.int .i64) .no, .dead, .dead, .dead, .dead, .dead, .dead, .dead, .dead, .dead, .dead, .dead, .dead, .dead, .dead, .dead, .dead, .dead, .dead]
abbrev laws_toAirwayS_l0o : List (Ex × List Sh) := [(.exit 0, [.dead, .dead, .dead, .val (.sl Tsiiiiii) (.own none .no), .dead, .dead, .dead, .dead, .dead, .dead, .dead, .dead, .dead, .dead, .dead, .dead, .dead, .dead, .dead, .dead, .dead, .dead, .dead])]
def laws_toAirwayS_l0_step {β : Type} (F : Nat) (k0 : El (.sl Tsiiiiii) × Unit → Option β) (rec : El (.sl Tsiiiiii) × El (.sl Tsiiiiii) × El (.int .i64) × Unit → Option β) (x : El (.sl Tsiiiiii) × El (.sl Tsiiiiii) × El (.int .i64) × Unit) : Option β :=
  cond (decide (x.2.2.1 < (x.1.length : Int))) (obind (rdAt x.1 x.2.2.1) fun v1 => obind (laws_toAirway F v1) fun r2 => obind (rdAt x.2.1 x.2.2.1) fun v3 => rec (x.1, x.2.1.set x.2.2.1.toNat r2.1, IntKind.i64.wrap (x.2.2.1 + (1 : Int)), ())) (k0 (x.2.1, ()))
def laws_toAirwayS_l0 (F : Nat) : LoopFn where
  n := 23
  sh := laws_toAirwayS_l0s
  outs := laws_toAirwayS_l0o
  es := [.exit 0]
  step := fun rec K x => laws_toAirwayS_l0_step F K.1 rec x
/-- loop.example/g01021/laws.toAirwayS -/
def laws_toAirwayS (F : Nat) (x0 : El (.sl Tsiiiiii)) : Option (Outs [((.sl Tsiiiiii), (.own none (.pr .no (.pr .no (.pr .no (.pr .no (.pr .no (.pr .no (.pr .no .no)))))))))]) :=
  guardB (decide ((0 : Int) ≤ (x0.length : Int))) (guardB (decide ((x0.length : Int) ≤ (x0.length : Int))) (guardB (decide ((x0.length : Int) * (64 : Int) ≤ 281474976710656)) (guardB (decide ((x0.length : Int) ≤ 9223372036854775807)) (runP (laws_toAirwayS_l0_step F (fun y4 => some (y4.1, ()))) none F (x0, List.replicate (x0.length : Int).toNat ((⟨#[]⟩ : ByteArray), ((0 : Int), ((0 : Int), ((0 : Int), ((0 : Int), ((0 : Int), ((0 : Int), ()))))))), (0 : Int), ())))))
/-- loop.example/g01021/laws.toMine -/
def laws_toMine (F : Nat) (x0 : El TiSqsiiiiiip) : Option (Outs [(TiSqsiiiiiip, (.pr .no (.pr (.own none (.pr .no (.pr .no (.pr .no (.pr .no (.pr .no (.pr .no (.pr .no .no)))))))) .no)))]) :=
  obind (laws_toAirwayS F x0.2.1) fun r1 => some ((x0.1, (r1.1, ())), ())
abbrev laws_toInt64S_l0s : List Sh := [.val (.sl (.int .i64)) .no, .dead, .dead, .val (.sl (.int .i64)) (.own none .no), .val (.int .i64) .no, .dead, .dead, .dead, .dead, .dead, .dead, .dead, .dead, .dead, .dead, .dead, .dead, .dead, .dead, .dead, .dead, .dead]
abbrev laws_toInt64S_l0o : List (Ex × List Sh) := [(.exit 0, [.dead, .dead, .dead, .val (.sl (.int .i64)) (.own none .no), .dead, .dead, .dead, .dead, .dead, .dead, .dead, .dead, .dead, .dead, .dead, .dead, .dead, .dead, .dead, .dead, .dead, .dead])]
def laws_toInt64S_l0_step {β : Type} (F : Nat) (k0 : El (.sl (.int .i64)) × Unit → Option β) (rec : El (.sl (.int .i64)) × El (.sl (.int .i64)) × El (.int .i64) × Unit → Option β) (x : El (.sl (.int .i64)) × El (.sl (.int .i64)) × El (.int .i64) × Unit) : Option β :=
  cond (decide (x.2.2.1 < (x.1.length : Int))) (obind (rdAt x.1 x.2.2.1) fun v1 => obind (rdAt x.2.1 x.2.2.1) fun v2 => rec (x.1, x.2.1.set x.2.2.1.toNat v1, IntKind.i64.wrap (x.2.2.1 + (1 : Int)), ())) (k0 (x.2.1, ()))
def laws_toInt64S_l0 (F : Nat) : LoopFn where
  n := 22
  sh := laws_toInt64S_l0s
  outs := laws_toInt64S_l0o
  es := [.exit 0]
  step := fun rec K x => laws_toInt64S_l0_step F K.1 rec x
/-- loop.example/g01021/laws.toInt64S -/
def laws_toInt64S (F : Nat) (x0 : El (.sl (.int .i64))) : Option (Outs [((.sl (.int .i64)), (.own none .no))]) :=
  guardB (decide ((0 : Int) ≤ (x0.length : Int))) (guardB (decide ((x0.length : Int) ≤ (x0.length : Int))) (guardB (decide ((x0.length : Int) * (8 : Int) ≤ 281474976710656)) (guardB (decide ((x0.length : Int) ≤ 9223372036854775807)) (runP (laws_toInt64S_l0_step F (fun y3 => some (y3.1, ()))) none F (x0, List.replicate (x0.length : Int).toNat (0 : Int), (0 : Int), ())))))
abbrev laws_toInt64SS_l0s : List Sh := [.val (.sl (.sl (.int .i64))) .no, .dead, .dead, .val (.sl (.sl (.int .i64))) (.own none (.own none .no)), .val (.int .i64) .no, .dead, .dead, .dead, .dead, .dead, .dead, .dead, .dead, .dead, .dead, .dead, .dead, .dead, .dead, .dead, .dead, .dead, .dead]
abbrev laws_toInt64SS_l0o : List (Ex × List Sh) := [(.exit 0, [.dead, .dead, .dead, .val (.sl (.sl (.int .i64))) (.own none (.own none .no)), .dead, .dead, .dead, .dead, .dead, .dead, .dead, .dead, .dead, .dead, .dead, .dead, .dead, .dead, .dead, .dead, .dead, .dead, .dead])]
def laws_toInt64SS_l0_step {β : Type} (F : Nat) (k0 : El (.sl (.sl (.int .i64))) × Unit → Option β) (rec : El (.sl (.sl (.int .i64))) × El (.sl (.sl (.int .i64))) × El (.int .i64) × Unit → Option β) (x : El (.sl (.sl (.int .i64))) × El (.sl (.sl (.int .i64))) × El (.int .i64) × Unit) : Option β :=
  cond (decide (x.2.2.1 < (x.1.length : Int))) (obind (rdAt x.1 x.2.2.1) fun v1 => obind (laws_toInt64S F v1) fun r2 => obind (rdAt x.2.1 x.2.2.1) fun v3 => rec (x.1, x.2.1.set x.2.2.1.toNat r2.1, IntKind.i64.wrap (x.2.2.1 + (1 : Int)), ())) (k0 (x.2.1, ()))
def laws_toInt64SS_l0 (F : Nat) : LoopFn where
  n := 23
  sh := laws_toInt64SS_l0s
  outs := laws_toInt64SS_l0o
  es := [.exit 0]
  step := fun rec K x => laws_toInt64SS_l0_step F K.1 rec x
/-- loop.example/g01021/laws.toInt64SS -/
def laws_toInt64SS (F : Nat) (x0 : El (.sl (.sl (.int .i64)))) : Option (Outs [((.sl (.sl (.int .i64))), (.own none (.own none .no)))]) :=
  guardB (decide ((0 : Int) ≤ (x0.length : Int))) (guardB (decide ((x0.length : Int) ≤ (x0.length : Int))) (guardB (decide ((x0.length : Int) * (24 : Int) ≤ 281474976710656)) (guardB (decide ((x0.length : Int) ≤ 9223372036854775807)) (runP (laws_toInt64SS_l0_step F (fun y4 => some (y4.1, ()))) none F (x0, List.replicate (x0.length : Int).toNat ([]), (0 : Int), ())))))
/-- loop.example/g01021/laws.toFan -/
def laws_toFan (F : Nat) (x0 : El TsiSSi) : Option (Outs [(TsiSSi, (.pr .no (.pr .no (.pr (.own none (.own none .no)) .no))))]) :=
  obind (laws_toInt64SS F x0.2.2.1) fun r1 => some ((x0.1, (x0.2.1, (r1.1, ()))), ())
abbrev laws_toFanS_l0s : List Sh := [.val (.sl TsiSSi) .no, .dead, .dead, .val (.sl TsiSSi) (.own none (.pr .no (.pr .no (.pr (.own none (.own none .no)) .no)))), .val (.int .i64) .no, .dead, .dead, .dead, .dead, .dead, .dead, .dead, .dead, .dead, .dead, .dead, .dead, .dead, .dead, .dead, .dead, .dead, .dead]
abbrev laws_toFanS_l0o : List (Ex × List Sh) := [(.exit 0, [.dead, .dead, .dead, .val (.sl TsiSSi) (.own none (.pr .no (.pr .no (.pr (.own none (.own none .no)) .no)))), .dead, .dead, .dead, .dead, .dead, .dead, .dead, .dead, .dead, .dead, .dead, .dead, .dead, .dead, .dead, .dead, .dead, .dead, .dead])]
def laws_toFanS_l0_step {β : Type} (F : Nat) (k0 : El (.sl TsiSSi) × Unit → Option β) (rec : El (.sl TsiSSi) × El (.sl TsiSSi) × El (.int .i64) × Unit → Option β) (x : El (.sl TsiSSi) × El (.sl TsiSSi) × El (.int .i64) × Unit) : Option β :=
  cond (decide (x.2.2.1 < (x.1.length : Int))) (obind (rdAt x.1 x.2.2.1) fun v1 => obind (laws_toFan F v1) fun r2 => obind (rdAt x.2.1 x.2.2.1) fun v3 => rec (x.1, x.2.1.set x.2.2.1.toNat r2.1, IntKind.i64.wrap (x.2.2.1 + (1 : Int)), ())) (k0 (x.2.1, ()))
def laws_toFanS_l0 (F : Nat) : LoopFn where
  n := 23
  sh := laws_toFanS_l0s
  outs := laws_toFanS_l0o
  es := [.exit 0]
  step := fun rec K x => laws_toFanS_l0_step F K.1 rec x
/-- loop.example/g01021/laws.toFanS -/
def laws_toFanS (F : Nat) (x0 : El (.sl TsiSSi)) : Option (Outs [((.sl TsiSSi), (.own none (.pr .no (.pr .no (.pr (.own none (.own none .no)) .no)))))]) :=
  guardB (decide ((0 : Int) ≤ (x0.length : Int))) (guardB (decide ((x0.length : Int) ≤ (x0.length : Int))) (guardB (decide ((x0.length : Int) * (48 : Int) ≤ 281474976710656)) (guardB (decide ((x0.length : Int) ≤ 9223372036854775807)) (runP (laws_toFanS_l0_step F (fun y4 => some (y4.1, ()))) none F (x0, List.replicate (x0.length : Int).toNat ((⟨#[]⟩ : ByteArray), ((0 : Int), ([], ()))), (0 : Int), ())))))
/-- loop.example/g01021/laws.toRefuge -/
def laws_toRefuge (F : Nat) (x0 : El Tsiii) : Option (Outs [(Tsiii, (.pr .no (.pr .no (.pr .no (.pr .no .no)))))]) :=
  some ((x0.1, (x0.2.1, (x0.2.2.1, (x0.2.2.2.1, ())))), ())
abbrev laws_toRefugeS_l0s : List Sh := [.val (.sl Tsiii) .no, .dead, .dead, .val (.sl Tsiii) (.own none .no), .val (.int .i64) .no, .dead, .dead, .dead, .dead, .dead, .dead, .dead, .dead, .dead, .dead, .dead, .dead, .dead, .dead, .dead, .dead, .dead, .dead]
abbrev laws_toRefugeS_l0o : List (Ex × List Sh) := [(.exit 0, [.dead, .dead, .dead, .val (.sl Tsiii) (.own none .no), .dead, .dead, .dead, .dead, .dead, .dead, .dead, .dead, .dead, .dead, .dead, .dead, .dead, .dead, .dead, .dead, .dead, .dead, .dead])]
def laws_toRefugeS_l0_step {β : Type} (F : Nat) (k0 : El (.sl Tsiii) × Unit → Option β) (rec : El (.sl Tsiii) × El (.sl Tsiii) × El (.int .i64) × Unit → Option β) (x : El (.sl Tsiii) × El (.sl Tsiii) × El (.int .i64) × Unit) : Option β :=
  cond (decide (x.2.2.1 < (x.1.length : Int))) (obind (rdAt x.1 x.2.2.1) fun v1 => obind (laws_toRefuge F v1) fun r2 => obind (rdAt x.2.1 x.2.2.1) fun v3 => rec (x.1, x.2.1.set x.2.2.1.toNat r2.1, IntKind.i64.wrap (x.2.2.1 + (1 : Int)), ())) (k0 (x.2.1, ()))
def laws_toRefugeS_l0 (F : Nat) : LoopFn where
  n := 23
  sh := laws_toRefugeS_l0s
  outs := laws_toRefugeS_l0o
  es := [.exit 0]
  step := fun rec K x => laws_toRefugeS_l0_step F K.1 rec x
/-- loop.example/g01021/laws.toRefugeS -/
def laws_toRefugeS (F : Nat) (x0 : El (.sl Tsiii)) : Option (Outs [((.sl Tsiii), (.own none (.pr .no (.pr .no (.pr .no (.pr .no .no))))))]) :=
  guardB (decide ((0 : Int) ≤ (x0.length : Int))) (guardB (decide ((x0.length : Int) ≤ (x0.length : Int))) (guardB (decide ((x0.length : Int) * (40 : Int) ≤ 281474976710656)) (guardB (decide ((x0.length : Int) ≤ 9223372036854775807)) (runP (laws_toRefugeS_l0_step F (fun y4 => some (y4.1, ()))) none F (x0, List.replicate (x0.length : Int).toNat ((⟨#[]⟩ : ByteArray), ((0 : Int), ((0 : Int), ((0 : Int), ())))), (0 : Int), ())))))
/-- loop.example/g01021/laws.toSensor -/
def laws_toSensor (F : Nat) (x0 : El Tsiiii) : Option (Outs [(Tsiiii, (.pr .no (.pr .no (.pr .no (.pr .no (.pr .no .no))))))]) :=
  some ((x0.1, (x0.2.1, (x0.2.2.1, (x0.2.2.2.1, (x0.2.2.2.2.1, ()))))), ())
abbrev laws_toSensorS_l0s : List Sh := [.val (.sl Tsiiii) .no, .dead, .dead, .val (.sl Tsiiii) (.own none .no), .val (.int .i64) .no, .dead, .dead, .dead, .dead, .dead, .dead, .dead, .dead, .dead, .dead, .dead, .dead, .dead, .dead, .dead, .dead, .dead, .dead]
abbrev laws_toSensorS_l0o : List (Ex × List Sh) := [(.exit 0, [.dead, .dead, .dead, .val (.sl Tsiiii) (.own none .no), .dead, .dead, .dead, .dead, .dead, .dead, .dead, .dead, .dead, .dead, .dead, .dead, .dead, .dead, .dead, .dead, .dead, .dead, .dead])]
def laws_toSensorS_l0_step {β : Type} (F : Nat) (k0 : El (.sl Tsiiii) × Unit → Option β) (rec : El (.sl Tsiiii) × El (.sl Tsiiii) × El (.int .i64) × Unit → Option β) (x : El (.sl Tsiiii) × El (.sl Tsiiii) × El (.int .i64) × Unit) : Option β :=
  cond (decide (x.2.2.1 < (x.1.length : Int))) (obind (rdAt x.1 x.2.2.1) fun v1 => obind (laws_toSensor F v1) fun r2 => obind (rdAt x.2.1 x.2.2.1) fun v3 => rec (x.1, x.2.1.set x.2.2.1.toNat r2.1, IntKind.i64.wrap (x.2.2.1 + (1 : Int)), ())) (k0 (x.2.1, ()))
def laws_toSensorS_l0 (F : Nat) : LoopFn where
  n := 23
  sh := laws_toSensorS_l0s
  outs := laws_toSensorS_l0o
  es := [.exit 0]
  step := fun rec K x => laws_toSensorS_l0_step F K.1 rec x
/-- loop.example/g01021/laws.toSensorS -/
def laws_toSensorS (F : Nat) (x0 : El (.sl Tsiiii)) : Option (Outs [((.sl Tsiiii), (.own none (.pr .no (.pr .no (.pr .no (.pr .no (.pr .no .no)))))))]) :=
  guardB (decide ((0 : Int) ≤ (x0.length : Int))) (guardB (decide ((x0.length : Int) ≤ (x0.length : Int))) (guardB (decide ((x0.length : Int) * (48 : Int) ≤ 281474976710656)) (guardB (decide ((x0.length : Int) ≤ 9223372036854775807)) (runP (laws_toSensorS_l0_step F (fun y4 => some (y4.1, ()))) none F (x0, List.replicate (x0.length : Int).toNat ((⟨#[]⟩ : ByteArray), ((0 : Int), ((0 : Int), ((0 : Int), ((0 : Int), ()))))), (0 : Int), ())))))
/-- loop.example/g01021/laws.toPermit -/
def laws_toPermit (F : Nat) (x0 : El Tsiiii) : Option (Outs [(Tsiiii, (.pr .no (.pr .no (.pr .no (.pr .no (.pr .no .no))))))]) :=
  some ((x0.1, (x0.2.1, (x0.2.2.1, (x0.2.2.2.1, (x0.2.2.2.2.1, ()))))), ())
abbrev laws_toPermitS_l0s : List Sh := [.val (.sl Tsiiii) .no, .dead, .dead, .val (.sl Tsiiii) (.own none .no), .val (.int .i64) .no, .dead, .dead, .dead, .dead, .dead, .dead, .dead, .dead, .dead, .dead, .dead, .dead, .dead, .dead, .dead, .dead, .dead, .dead]
abbrev laws_toPermitS_l0o : List (Ex × List Sh) := [(.exit 0, [.dead, .dead, .dead, .val (.sl Tsiiii) (.own none .no), .dead, .dead, .dead, .dead, .dead, .dead, .dead, .dead, .dead, .dead, .dead, .dead, .dead, .dead, .dead, .dead, .dead, .dead, .dead])]
def laws_toPermitS_l0_step {β : Type} (F : Nat) (k0 : El (.sl Tsiiii) × Unit → Option β) (rec : El (.sl Tsiiii) × El (.sl Tsiiii) × El (.int .i64) × Unit → Option β) (x : El (.sl Tsiiii) × El (.sl Tsiiii) × El (.int .i64) × Unit) : Option β :=
  cond (decide (x.2.2.1 < (x.1.length : Int))) (obind (rdAt x.1 x.2.2.1) fun v1 => obind (laws_toPermit F v1) fun r2 => obind (rdAt x.2.1 x.2.2.1) fun v3 => rec (x.1, x.2.1.set x.2.2.1.toNat r2.1, IntKind.i64.wrap (x.2.2.1 + (1 : Int)), ())) (k0 (x.2.1, ()))
def laws_toPermitS_l0 (F : Nat) : LoopFn where
  n := 23
  sh := laws_toPermitS_l0s
  outs := laws_toPermitS_l0o
  es := [.exit 0]
  step := fun rec K x => laws_toPermitS_l0_step F K.1 rec x
/-- loop.example/g01021/laws.toPermitS -/
def laws_toPermitS (F : Nat) (x0 : El (.sl Tsiiii)) : Option (Outs [((.sl Tsiiii), (.own none (.pr .no (.pr .no (.pr .no (.pr .no (.pr .no .no)))))))]) :=
  guardB (decide ((0 : Int) ≤ (x0.length : Int))) (guardB (decide ((x0.length : Int) ≤ (x0.length : Int))) (guardB (decide ((x0.length : Int) * (48 : Int) ≤ 281474976710656)) (guardB (decide ((x0.length : Int) ≤ 9223372036854775807)) (runP (laws_toPermitS_l0_step F (fun y4 => some (y4.1, ()))) none F (x0, List.replicate (x0.length : Int).toNat ((⟨#[]⟩ : ByteArray), ((0 : Int), ((0 : Int), ((0 : Int), ((0 : Int), ()))))), (0 : Int), ())))))
/-- loop.example/g01021/laws.toDrill -/
def laws_toDrill (F : Nat) (x0 : El Tisiii) : Option (Outs [(Tisiii, (.pr .no (.pr .no (.pr .no (.pr .no (.pr .no .no))))))]) :=
  some ((x0.1, (x0.2.1, (x0.2.2.1, (x0.2.2.2.1, (x0.2.2.2.2.1, ()))))), ())
abbrev laws_toDrillS_l0s : List Sh := [.val (.sl Tisiii) .no, .dead, .dead, .val (.sl Tisiii) (.own none .no), .val (.int .i64) .no, .dead, .dead, .dead, .dead, .dead, .dead, .dead, .dead, .dead, .dead, .dead, .dead, .dead, .dead, .dead, .dead, .dead, .dead]
abbrev laws_toDrillS_l0o : List (Ex × List Sh) := [(.exit 0, [.dead, .dead, .dead, .val (.sl Tisiii) (.own none .no), .dead, .dead, .dead, .dead, .dead, .dead, .dead, .dead, .dead, .dead, .dead, .dead, .dead, .dead, .dead, .dead, .dead, .dead, .dead])]
def laws_toDrillS_l0_step {β : Type} (F : Nat) (k0 : El (.sl Tisiii) × Unit → Option β) (rec : El (.sl Tisiii) × El (.sl Tisiii) × El (.int .i64) × Unit → Option β) (x : El (.sl Tisiii) × El (.sl Tisiii) × El (.int .i64) × Unit) : Option β :=
  cond (decide (x.2.2.1 < (x.1.length : Int))) (obind (rdAt x.1 x.2.2.1) fun v1 => obind (laws_toDrill F v1) fun r2 => obind (rdAt x.2.1 x.2.2.1) fun v3 => rec (x.1, x.2.1.set x.2.2.1.toNat r2.1, IntKind.i64.wrap (x.2.2.1 + (1 : Int)), ())) (k0 (x.2.1, ()))
def laws_toDrillS_l0 (F : Nat) : LoopFn where
  n := 23
  sh := laws_toDrillS_l0s
  outs := laws_toDrillS_l0o
  es := [.exit 0]
  step := fun rec K x => laws_toDrillS_l0_step F K.1 rec x
/-- loop.example/g01021/laws.toDrillS -/
def laws_toDrillS (F : Nat) (x0 : El (.sl Tisiii)) : Option (Outs [((.sl Tisiii), (.own none (.pr .no (.pr .no (.pr .no (.pr .no (.pr .no .no)))))))]) :=
  guardB (decide ((0 : Int) ≤ (x0.length : Int))) (guardB (decide ((x0.length : Int) ≤ (x0.length : Int))) (guardB (decide ((x0.length : Int) * (48 : Int) ≤ 281474976710656)) (guardB (decide ((x0.length : Int) ≤ 9223372036854775807)) (runP (laws_toDrillS_l0_step F (fun y4 => some (y4.1, ()))) none F (x0, List.replicate (x0.length : Int).toNat ((0 : Int), ((⟨#[]⟩ : ByteArray), ((0 : Int), ((0 : Int), ((0 : Int), ()))))), (0 : Int), ())))))
/-- loop.example/g01021/laws.toDesk -/
def laws_toDesk (F : Nat) (x0 : El T5d55a700) : Option (Outs [(T5d55a700, (.pr (.pr .no (.pr (.own none (.pr .no (.pr .no (.pr .no (.pr .no (.pr .no (.pr .no (.pr .no .no)))))))) .no)) (.pr (.own none .no) (.pr (.own none .no) (.pr (.own none (.pr .no (.pr .no (.pr (.own none (.own none .no)) .no)))) (.pr (.own none (.pr .no (.pr .no (.pr .no (.pr .no .no))))) (.pr (.own none (.pr .no (.pr .no (.pr .no (.pr .no (.pr .no .no)))))) (.pr (.own none (.pr .no (.pr .no (.pr .no (.pr .no (.pr .no .no)))))) (.pr (.own none (.pr .no (.pr .no (.pr .no (.pr .no (.pr .no .no)))))) .no)))))))))]) :=
  obind (laws_toMine F x0.1) fun r1 => obind (laws_toInt64S F x0.2.1) fun r2 => obind (laws_toInt64S F x0.2.2.1) fun r3 => obind (laws_toFanS F x0.2.2.2.1) fun r4 => obind (laws_toRefugeS F x0.2.2.2.2.1) fun r5 => obind (laws_toSensorS F x0.2.2.2.2.2.1) fun r6 => obind (laws_toPermitS F x0.2.2.2.2.2.2.1) fun r7 => obind (laws_toDrillS F x0.2.2.2.2.2.2.2.1) fun r8 => some ((r1.1, (r2.1, (r3.1, (r4.1, (r5.1, (r6.1, (r7.1, (r8.1, ())))))))), ())
/-- loop.example/g01021/spec.l00In -/
def spec_l00In (F : Nat) (x0 : El (.int .i64)) (x1 : El (.int .i64)) (x2 : El (.int .i64)) : Option (Outs [(.bool, .no)]) :=
  cond (decide (x0 ≥ x1)) (some (decide (x0 ≤ x2), ())) (some (false, ()))
/-- loop.example/g01021/spec.l01Small -/
def spec_l01Small (F : Nat) (x0 : El (.int .u8)) : Option (Outs [(.bool, .no)]) :=
  cond (decide (x0 ≥ (97 : Int))) (some (decide (x0 ≤ (122 : Int)), ())) (some (false, ()))
/-- loop.example/g01021/spec.l01Digit -/
def spec_l01Digit (F : Nat) (x0 : El (.int .u8)) : Option (Outs [(.bool, .no)]) :=
  cond (decide (x0 ≥ (48 : Int))) (some (decide (x0 ≤ (57 : Int)), ())) (some (false, ()))
abbrev spec_l01Name_l0s : List Sh := [.val .str .no, .dead, .dead, .val (.int .i64) .no, .dead, .dead, .dead, .dead, .dead, .dead, .dead, .dead, .dead, .dead, .dead, .dead, .dead, .dead, .dead, .dead, .dead, .dead, .dead, .dead, .dead, .dead, .dead, .dead, .dead, .dead, .dead, .dead, .dead, .dead, .dead]
abbrev spec_l01Name_l0o : List (Ex × List Sh) := [(.ret, [.dead, .dead, .val .bool .no, .dead, .dead, .dead, .dead, .dead, .dead, .dead, .dead, .dead, .dead, .dead, .dead, .dead, .dead, .dead, .dead, .dead, .dead, .dead, .dead, .dead, .dead, .dead, .dead, .dead, .dead, .dead, .dead, .dead, .dead, .dead, .dead]), (.exit 0, [.dead, .dead, .dead, .dead, .dead, .dead, .dead, .dead, .dead, .dead, .dead, .dead, .dead, .dead, .dead, .dead, .dead, .dead, .dead, .dead, .dead, .dead, .dead, .dead, .dead, .dead, .dead, .dead, .dead, .dead, .dead, .dead, .dead, .dead, .dead])]
def spec_l01Name_l0_step {β : Type} (F : Nat) (k0 : El .bool × Unit → Option β) (k1 : Unit → Option β) (rec : El .str × El (.int .i64) × Unit → Option β) (x : El .str × El (.int .i64) × Unit) : Option β :=
  cond (decide (x.2.1 < (x.1.size : Int))) (obind (btAt x.1 x.2.1) fun v3 => obind (spec_l01Small F v3) fun r4 => cond (!r4.1) (obind (btAt x.1 x.2.1) fun v5 => obind (spec_l01Digit F v5) fun r6 => cond (!r6.1) (k0 (false, ())) (rec (x.1, IntKind.i64.wrap (x.2.1 + (1 : Int)), ()))) (rec (x.1, IntKind.i64.wrap (x.2.1 + (1 : Int)), ()))) (k1 (()))
def spec_l01Name_l0 (F : Nat) : LoopFn where
  n := 35
  sh := spec_l01Name_l0s
  outs := spec_l01Name_l0o
  es := [.ret, .exit 0]
  step := fun rec K x => spec_l01Name_l0_step F K.1 K.2.1 rec x
/-- loop.example/g01021/spec.l01Name -/
def spec_l01Name (F : Nat) (x0 : El .str) : Option (Outs [(.bool, .no)]) :=
  cond (x0.toList == (⟨#[]⟩ : ByteArray).toList) (some (false, ())) (cond (decide ((x0.size : Int) > (10 : Int))) (some (false, ())) (obind (btAt x0 (0 : Int)) fun v1 => obind (spec_l01Small F v1) fun r2 => cond (!r2.1) (some (false, ())) (runP (spec_l01Name_l0_step F (fun y7 => some (y7.1, ())) (fun y7 => some (true, ()))) none F (x0, (0 : Int), ()))))
/-- loop.example/g01021/spec.l03Ok -/
def spec_l03Ok (F : Nat) (x0 : El (.ptr Tsiiiiii)) : Option (Outs [(.bool, .no)]) :=
  obind (spec_l01Name F x0.1) fun r1 => cond (!r1.1) (some (false, ())) (obind (spec_l00In F x0.2.1 (0 : Int) (15 : Int)) fun r2 => cond (!r2.1) (some (false, ())) (obind (spec_l00In F x0.2.2.1 (0 : Int) (15 : Int)) fun r3 => cond (!r3.1) (some (false, ())) (cond (x0.2.1 == x0.2.2.1) (some (false, ())) (obind (spec_l00In F x0.2.2.2.1 (1 : Int) (10000 : Int)) fun r4 => cond r4.1 (obind (spec_l00In F x0.2.2.2.2.1 (50 : Int) (5000 : Int)) fun r5 => cond r5.1 (obind (spec_l00In F x0.2.2.2.2.2.1 (1 : Int) (1000 : Int)) fun r6 => cond r6.1 (obind (spec_l00In F x0.2.2.2.2.2.2.1 (0 : Int) (1000 : Int)) fun r7 => some (r7.1, ())) (some (false, ()))) (some (false, ()))) (some (false, ()))))))
/-- loop.example/g01021/spec.l04Junction -/
def spec_l04Junction (F : Nat) (x0 : El (.ptr TiSqsiiiiiip)) (x1 : El (.int .i64)) : Option (Outs [(.bool, .no)]) :=
  obind (spec_l00In F x1 (0 : Int) (IntKind.i64.wrap (x0.1 - (1 : Int)))) fun r1 => some (r1.1, ())
abbrev spec_l04Ok_l0s : List Sh := [.val (.ptr TiSqsiiiiiip) .no, .dead, .dead, .val (.int .i64) .no, .dead, .dead, .dead, .dead, .dead, .dead, .dead, .dead, .dead, .dead, .dead, .dead, .dead, .dead, .dead, .dead, .dead, .dead, .dead, .dead, .dead, .dead, .dead, .dead, .dead, .dead, .dead, .dead, .dead, .dead, .dead, .dead, .dead, .dead, .dead, .dead, .dead, .dead, .dead, .dead, .dead, .dead, .dead, .dead, .dead, .dead, .dead, .dead, .dead, .dead, .dead, .dead, .dead, .dead, .dead, .dead, .dead, .dead, .dead, .dead, .dead, .dead, .dead, .dead, .dead, .dead, .dead, .dead, .dead]
abbrev spec_l04Ok_l0o : List (Ex × List Sh) := [(.ret, [.dead, .dead, .val .bool .no, .dead, .dead, .dead, .dead, .dead, .dead, .dead, .dead, .dead, .dead, .dead, .dead, .dead, .dead, .dead, .dead, .dead, .dead, .dead, .dead, .dead, .dead, .dead, .dead, .dead, .dead, .dead, .dead, .dead, .dead, .dead, .dead, .dead, .dead, .dead, .dead, .dead, .dead, .dead, .dead, .dead, .dead, .dead, .dead, .dead, .dead, .dead, .dead, .dead, .dead, .dead, .dead, .dead, .dead, .dead, .dead, .dead, .dead, .dead, .dead, .dead, .dead, .dead, .dead, .dead, .dead, .dead, .dead, .dead, .dead]), (.exit 0, [.val (.ptr TiSqsiiiiiip) .no, .dead, .dead, .dead, .dead, .dead, .dead, .dead, .dead, .dead, .dead, .dead, .dead, .dead, .dead, .dead, .dead, .dead, .dead, .dead, .dead, .dead, .dead, .dead, .dead, .dead, .dead, .dead, .dead, .dead, .dead, .dead, .dead, .dead, .dead, .dead, .dead, .dead, .dead, .dead, .dead, .dead, .dead, .dead, .dead, .dead, .dead, .dead, .dead, .dead, .dead, .dead, .dead, .dead, .dead, .dead, .dead, .dead, .dead, .dead, .dead, .dead, .dead, .dead, .dead, .dead, .dead, .dead, .dead, .dead, .dead, .dead, .dead])]
def spec_l04Ok_l0_step {β : Type} (F : Nat) (k0 : El .bool × Unit → Option β) (k1 : El (.ptr TiSqsiiiiiip) × Unit → Option β) (rec : El (.ptr TiSqsiiiiiip) × El (.int .i64) × Unit → Option β) (x : El (.ptr TiSqsiiiiiip) × El (.int .i64) × Unit) : Option β :=
  cond (decide (x.2.1 < (x.1.2.1.length : Int))) (obind (rdAt x.1.2.1 x.2.1) fun v2 => obind (spec_l03Ok F v2) fun r3 => cond (!r3.1) (k0 (false, ())) (obind (spec_l04Junction F x.1 v2.2.1) fun r4 => cond (!r4.1) (k0 (false, ())) (obind (spec_l04Junction F x.1 v2.2.2.1) fun r5 => cond (!r5.1) (k0 (false, ())) (cond (decide (x.2.1 > (0 : Int))) (obind (rdAt x.1.2.1 (IntKind.i64.wrap (x.2.1 - (1 : Int)))) fun v6 => cond (!(Op.bytesLess v6.1.toList v2.1.toList)) (k0 (false, ())) (rec (x.1, IntKind.i64.wrap (x.2.1 + (1 : Int)), ()))) (rec (x.1, IntKind.i64.wrap (x.2.1 + (1 : Int)), ())))))) (k1 (x.1, ()))
def spec_l04Ok_l0 (F : Nat) : LoopFn where
  n := 73
  sh := spec_l04Ok_l0s
  outs := spec_l04Ok_l0o
  es := [.ret, .exit 0]
  step := fun rec K x => spec_l04Ok_l0_step F K.1 K.2.1 rec x
/-- loop.example/g01021/spec.l04Ok -/
def spec_l04Ok (F : Nat) (x0 : El (.ptr TiSqsiiiiiip)) : Option (Outs [(.bool, .no)]) :=
  obind (spec_l00In F x0.1 (1 : Int) (16 : Int)) fun r1 => cond (!r1.1) (some (false, ())) (runP (spec_l04Ok_l0_step F (fun y7 => some (y7.1, ())) (fun y7 => some (decide ((y7.1.2.1.length : Int) ≤ (24 : Int)), ()))) none F (x0, (0 : Int), ()))
/-- loop.example/g01021/spec.l03Res -/
def spec_l03Res (F : Nat) (x0 : El (.int .i64)) : Option (Outs [(.bool, .no)]) :=
  obind (spec_l00In F x0 (1 : Int) (1000000 : Int)) fun r1 => some (r1.1, ())
abbrev spec_l07Res_l0s : List Sh := [.val (.ptr TiSqsiiiiiip) .no, .val (.sl (.int .i64)) .no, .dead, .dead, .dead, .val (.int .i64) .no, .dead, .dead, .dead, .dead, .dead, .dead, .dead, .dead, .dead, .dead, .dead, .dead, .dead, .dead, .dead, .dead, .dead, .dead, .dead, .dead]
abbrev spec_l07Res_l0o : List (Ex × List Sh) := [(.ret, [.dead, .dead, .dead, .dead, .val .bool .no, .dead, .dead, .dead, .dead, .dead, .dead, .dead, .dead, .dead, .dead, .dead, .dead, .dead, .dead, .dead, .dead, .dead, .dead, .dead, .dead, .dead]), (.exit 0, [.val (.ptr TiSqsiiiiiip) .no, .val (.sl (.int .i64)) .no, .dead, .dead, .dead, .dead, .dead, .dead, .dead, .dead, .dead, .dead, .dead, .dead, .dead, .dead, .dead, .dead, .dead, .dead, .dead, .dead, .dead, .dead, .dead, .dead])]
def spec_l07Res_l0_step {β : Type} (F : Nat) (k0 : El .bool × Unit → Option β) (k1 : El (.ptr TiSqsiiiiiip) × El (.sl (.int .i64)) × Unit → Option β) (rec : El (.ptr TiSqsiiiiiip) × El (.sl (.int .i64)) × El (.int .i64) × Unit → Option β) (x : El (.ptr TiSqsiiiiiip) × El (.sl (.int .i64)) × El (.int .i64) × Unit) : Option β :=
  cond (decide (x.2.2.1 < (x.2.1.length : Int))) (obind (rdAt x.2.1 x.2.2.1) fun v1 => obind (spec_l03Res F v1) fun r2 => cond (!r2.1) (k0 (false, ())) (rec (x.1, x.2.1, IntKind.i64.wrap (x.2.2.1 + (1 : Int)), ()))) (k1 (x.1, x.2.1, ()))
def spec_l07Res_l0 (F : Nat) : LoopFn where
  n := 26
  sh := spec_l07Res_l0s
  outs := spec_l07Res_l0o
  es := [.ret, .exit 0]
  step := fun rec K x => spec_l07Res_l0_step F K.1 K.2.1 rec x
/-- loop.example/g01021/spec.l07Res -/
def spec_l07Res (F : Nat) (x0 : El (.ptr TiSqsiiiiiip)) (x1 : El (.sl (.int .i64))) : Option (Outs [(.bool, .no)]) :=
  runP (spec_l07Res_l0_step F (fun y3 => some (y3.1, ())) (fun y3 => some (((y3.2.1.length : Int) == (y3.1.2.1.length : Int)), ()))) none F (x0, x1, (0 : Int), ())
/-- loop.example/g01021/spec.l03Flow -/
def spec_l03Flow (F : Nat) (x0 : El (.int .i64)) : Option (Outs [(.bool, .no)]) :=
  obind (spec_l00In F x0 (-100000 : Int) (100000 : Int)) fun r1 => some (r1.1, ())
abbrev spec_l07Flows_l0s : List Sh := [.val (.ptr TiSqsiiiiiip) .no, .val (.sl (.int .i64)) .no, .dead, .dead, .dead, .val (.int .i64) .no, .dead, .dead, .dead, .dead, .dead, .dead, .dead, .dead, .dead, .dead, .dead, .dead, .dead, .dead, .dead, .dead, .dead, .dead, .dead, .dead]
abbrev spec_l07Flows_l0o : List (Ex × List Sh) := [(.ret, [.dead, .dead, .dead, .dead, .val .bool .no, .dead, .dead, .dead, .dead, .dead, .dead, .dead, .dead, .dead, .dead, .dead, .dead, .dead, .dead, .dead, .dead, .dead, .dead, .dead, .dead, .dead]), (.exit 0, [.val (.ptr TiSqsiiiiiip) .no, .val (.sl (.int .i64)) .no, .dead, .dead, .dead, .dead, .dead, .dead, .dead, .dead, .dead, .dead, .dead, .dead, .dead, .dead, .dead, .dead, .dead, .dead, .dead, .dead, .dead, .dead, .dead, .dead])]
def spec_l07Flows_l0_step {β : Type} (F : Nat) (k0 : El .bool × Unit → Option β) (k1 : El (.ptr TiSqsiiiiiip) × El (.sl (.int .i64)) × Unit → Option β) (rec : El (.ptr TiSqsiiiiiip) × El (.sl (.int .i64)) × El (.int .i64) × Unit → Option β) (x : El (.ptr TiSqsiiiiiip) × El (.sl (.int .i64)) × El (.int .i64) × Unit) : Option β :=
  cond (decide (x.2.2.1 < (x.2.1.length : Int))) (obind (rdAt x.2.1 x.2.2.1) fun v1 => obind (spec_l03Flow F v1) fun r2 => cond (!r2.1) (k0 (false, ())) (rec (x.1, x.2.1, IntKind.i64.wrap (x.2.2.1 + (1 : Int)), ()))) (k1 (x.1, x.2.1, ()))
def spec_l07Flows_l0 (F : Nat) : LoopFn where
  n := 26
  sh := spec_l07Flows_l0s
  outs := spec_l07Flows_l0o
  es := [.ret, .exit 0]
  step := fun rec K x => spec_l07Flows_l0_step F K.1 K.2.1 rec x
/-- loop.example/g01021/spec.l07Flows -/
def spec_l07Flows (F : Nat) (x0 : El (.ptr TiSqsiiiiiip)) (x1 : El (.sl (.int .i64))) : Option (Outs [(.bool, .no)]) :=
  runP (spec_l07Flows_l0_step F (fun y3 => some (y3.1, ())) (fun y3 => some (((y3.2.1.length : Int) == (y3.1.2.1.length : Int)), ()))) none F (x0, x1, (0 : Int), ())
abbrev spec_l06Curve_l0s : List Sh := [.val (.sl (.sl (.int .i64))) .no, .dead, .dead, .val (.int .i64) .no, .dead, .dead, .dead, .dead, .dead, .dead, .dead, .dead, .dead, .dead, .dead, .dead, .dead, .dead, .dead, .dead, .dead, .dead, .dead, .dead, .dead, .dead, .dead, .dead, .dead, .dead, .dead, .dead, .dead, .dead, .dead, .dead, .dead, .dead, .dead, .dead, .dead, .dead, .dead, .dead, .dead, .dead, .dead, .dead, .dead, .dead, .dead, .dead, .dead, .dead, .dead, .dead, .dead, .dead, .dead, .dead, .dead, .dead, .dead, .dead, .dead, .dead, .dead, .dead, .dead, .dead]
abbrev spec_l06Curve_l0o : List (Ex × List Sh) := [(.ret, [.dead, .dead, .val .bool .no, .dead, .dead, .dead, .dead, .dead, .dead, .dead, .dead, .dead, .dead, .dead, .dead, .dead, .dead, .dead, .dead, .dead, .dead, .dead, .dead, .dead, .dead, .dead, .dead, .dead, .dead, .dead, .dead, .dead, .dead, .dead, .dead, .dead, .dead, .dead, .dead, .dead, .dead, .dead, .dead, .dead, .dead, .dead, .dead, .dead, .dead, .dead, .dead, .dead, .dead, .dead, .dead, .dead, .dead, .dead, .dead, .dead, .dead, .dead, .dead, .dead, .dead, .dead, .dead, .dead, .dead, .dead]), (.exit 0, [.val (.sl (.sl (.int .i64))) .no, .dead, .dead, .dead, .dead, .dead, .dead, .dead, .dead, .dead, .dead, .dead, .dead, .dead, .dead, .dead, .dead, .dead, .dead, .dead, .dead, .dead, .dead, .dead, .dead, .dead, .dead, .dead, .dead, .dead, .dead, .dead, .dead, .dead, .dead, .dead, .dead, .dead, .dead, .dead, .dead, .dead, .dead, .dead, .dead, .dead, .dead, .dead, .dead, .dead, .dead, .dead, .dead, .dead, .dead, .dead, .dead, .dead, .dead, .dead, .dead, .dead, .dead, .dead, .dead, .dead, .dead, .dead, .dead, .dead])]
def spec_l06Curve_l0_step {β : Type} (F : Nat) (k0 : El .bool × Unit → Option β) (k1 : El (.sl (.sl (.int .i64))) × Unit → Option β) (rec : El (.sl (.sl (.int .i64))) × El (.int .i64) × Unit → Option β) (x : El (.sl (.sl (.int .i64))) × El (.int .i64) × Unit) : Option β :=
  cond (decide (x.2.1 < (x.1.length : Int))) (obind (rdAt x.1 x.2.1) fun v1 => cond ((v1.length : Int) != (2 : Int)) (k0 (false, ())) (obind (rdAt v1 (0 : Int)) fun v2 => obind (spec_l00In F v2 (0 : Int) (100000 : Int)) fun r3 => cond (!r3.1) (k0 (false, ())) (obind (rdAt v1 (1 : Int)) fun v4 => obind (spec_l00In F v4 (0 : Int) (10000 : Int)) fun r5 => cond (!r5.1) (k0 (false, ())) (cond (decide (x.2.1 > (0 : Int))) (obind (rdAt x.1 (IntKind.i64.wrap (x.2.1 - (1 : Int)))) fun v6 => obind (rdAt v6 (0 : Int)) fun v7 => obind (rdAt v1 (0 : Int)) fun v8 => cond (decide (v7 ≥ v8)) (k0 (false, ())) (obind (rdAt x.1 (IntKind.i64.wrap (x.2.1 - (1 : Int)))) fun v9 => obind (rdAt v9 (1 : Int)) fun v10 => obind (rdAt v1 (1 : Int)) fun v11 => cond (decide (v10 < v11)) (k0 (false, ())) (rec (x.1, IntKind.i64.wrap (x.2.1 + (1 : Int)), ())))) (rec (x.1, IntKind.i64.wrap (x.2.1 + (1 : Int)), ())))))) (k1 (x.1, ()))
def spec_l06Curve_l0 (F : Nat) : LoopFn where
  n := 70
  sh := spec_l06Curve_l0s
  outs := spec_l06Curve_l0o
  es := [.ret, .exit 0]
  step := fun rec K x => spec_l06Curve_l0_step F K.1 K.2.1 rec x
/-- loop.example/g01021/spec.l06Curve -/
def spec_l06Curve (F : Nat) (x0 : El (.sl (.sl (.int .i64)))) : Option (Outs [(.bool, .no)]) :=
  runP (spec_l06Curve_l0_step F (fun y12 => some (y12.1, ())) (fun y12 => cond (decide ((y12.1.length : Int) ≥ (2 : Int))) (some (decide ((y12.1.length : Int) ≤ (8 : Int)), ())) (some (false, ())))) none F (x0, (0 : Int), ())
/-- loop.example/g01021/spec.l06Ok -/
def spec_l06Ok (F : Nat) (x0 : El (.ptr TsiSSi)) : Option (Outs [(.bool, .no)]) :=
  obind (spec_l01Name F x0.1) fun r1 => cond r1.1 (obind (spec_l00In F x0.2.1 (0 : Int) (23 : Int)) fun r2 => cond r2.1 (obind (spec_l06Curve F x0.2.2.1) fun r3 => some (r3.1, ())) (some (false, ()))) (some (false, ()))
abbrev spec_l06List_l0s : List Sh := [.val (.sl TsiSSi) .no, .dead, .dead, .val (.int .i64) .no, .dead, .dead, .dead, .dead, .dead, .dead, .dead, .dead, .dead, .dead, .dead, .dead, .dead, .dead, .dead, .dead, .dead, .dead, .dead, .dead, .dead, .dead, .dead, .dead, .dead, .dead, .dead, .dead, .dead, .dead, .dead, .dead]
abbrev spec_l06List_l0o : List (Ex × List Sh) := [(.ret, [.dead, .dead, .val .bool .no, .dead, .dead, .dead, .dead, .dead, .dead, .dead, .dead, .dead, .dead, .dead, .dead, .dead, .dead, .dead, .dead, .dead, .dead, .dead, .dead, .dead, .dead, .dead, .dead, .dead, .dead, .dead, .dead, .dead, .dead, .dead, .dead, .dead]), (.exit 0, [.val (.sl TsiSSi) .no, .dead, .dead, .dead, .dead, .dead, .dead, .dead, .dead, .dead, .dead, .dead, .dead, .dead, .dead, .dead, .dead, .dead, .dead, .dead, .dead, .dead, .dead, .dead, .dead, .dead, .dead, .dead, .dead, .dead, .dead, .dead, .dead, .dead, .dead, .dead])]
def spec_l06List_l0_step {β : Type} (F : Nat) (k0 : El .bool × Unit → Option β) (k1 : El (.sl TsiSSi) × Unit → Option β) (rec : El (.sl TsiSSi) × El (.int .i64) × Unit → Option β) (x : El (.sl TsiSSi) × El (.int .i64) × Unit) : Option β :=
  cond (decide (x.2.1 < (x.1.length : Int))) (obind (rdAt x.1 x.2.1) fun v1 => obind (spec_l06Ok F v1) fun r2 => cond (!r2.1) (k0 (false, ())) (cond (decide (x.2.1 > (0 : Int))) (obind (rdAt x.1 (IntKind.i64.wrap (x.2.1 - (1 : Int)))) fun v3 => obind (rdAt x.1 x.2.1) fun v4 => cond (!(Op.bytesLess v3.1.toList v4.1.toList)) (k0 (false, ())) (rec (x.1, IntKind.i64.wrap (x.2.1 + (1 : Int)), ()))) (rec (x.1, IntKind.i64.wrap (x.2.1 + (1 : Int)), ())))) (k1 (x.1, ()))
def spec_l06List_l0 (F : Nat) : LoopFn where
  n := 36
  sh := spec_l06List_l0s
  outs := spec_l06List_l0o
  es := [.ret, .exit 0]
  step := fun rec K x => spec_l06List_l0_step F K.1 K.2.1 rec x
/-- loop.example/g01021/spec.l06List -/
def spec_l06List (F : Nat) (x0 : El (.sl TsiSSi)) : Option (Outs [(.bool, .no)]) :=
  runP (spec_l06List_l0_step F (fun y5 => some (y5.1, ())) (fun y5 => some (decide ((y5.1.length : Int) ≤ (8 : Int)), ()))) none F (x0, (0 : Int), ())
abbrev spec_l07Fans_l0s : List Sh := [.val (.ptr TiSqsiiiiiip) .no, .val (.sl TsiSSi) .no, .dead, .dead, .dead, .val (.int .i64) .no, .dead, .dead, .dead, .dead, .dead, .dead, .dead, .dead, .dead, .dead, .dead, .dead, .dead, .dead, .dead, .dead, .dead]
abbrev spec_l07Fans_l0o : List (Ex × List Sh) := [(.ret, [.dead, .dead, .dead, .dead, .val .bool .no, .dead, .dead, .dead, .dead, .dead, .dead, .dead, .dead, .dead, .dead, .dead, .dead, .dead, .dead, .dead, .dead, .dead, .dead]), (.exit 0, [.dead, .dead, .dead, .dead, .dead, .dead, .dead, .dead, .dead, .dead, .dead, .dead, .dead, .dead, .dead, .dead, .dead, .dead, .dead, .dead, .dead, .dead, .dead])]
def spec_l07Fans_l0_step {β : Type} (F : Nat) (k0 : El .bool × Unit → Option β) (k1 : Unit → Option β) (rec : El (.ptr TiSqsiiiiiip) × El (.sl TsiSSi) × El (.int .i64) × Unit → Option β) (x : El (.ptr TiSqsiiiiiip) × El (.sl TsiSSi) × El (.int .i64) × Unit) : Option β :=
  cond (decide (x.2.2.1 < (x.2.1.length : Int))) (obind (rdAt x.2.1 x.2.2.1) fun v1 => cond (decide (v1.2.1 ≥ (x.1.2.1.length : Int))) (k0 (false, ())) (rec (x.1, x.2.1, IntKind.i64.wrap (x.2.2.1 + (1 : Int)), ()))) (k1 (()))
def spec_l07Fans_l0 (F : Nat) : LoopFn where
  n := 23
  sh := spec_l07Fans_l0s
  outs := spec_l07Fans_l0o
  es := [.ret, .exit 0]
  step := fun rec K x => spec_l07Fans_l0_step F K.1 K.2.1 rec x
/-- loop.example/g01021/spec.l07Fans -/
def spec_l07Fans (F : Nat) (x0 : El (.ptr TiSqsiiiiiip)) (x1 : El (.sl TsiSSi)) : Option (Outs [(.bool, .no)]) :=
  runP (spec_l07Fans_l0_step F (fun y2 => some (y2.1, ())) (fun y2 => some (true, ()))) none F (x0, x1, (0 : Int), ())
/-- loop.example/g01021/spec.l20One -/
def spec_l20One (F : Nat) (x0 : El (.ptr Tsiii)) : Option (Outs [(.bool, .no)]) :=
  obind (spec_l01Name F x0.1) fun r1 => cond r1.1 (obind (spec_l00In F x0.2.1 (0 : Int) (15 : Int)) fun r2 => cond r2.1 (obind (spec_l00In F x0.2.2.1 (1 : Int) (200 : Int)) fun r3 => cond r3.1 (obind (spec_l00In F x0.2.2.2.1 (0 : Int) (10000000 : Int)) fun r4 => some (r4.1, ())) (some (false, ()))) (some (false, ()))) (some (false, ()))
abbrev spec_l20Ok_l0s : List Sh := [.val (.ptr TiSqsiiiiiip) .no, .val (.sl Tsiii) .no, .dead, .dead, .dead, .val (.int .i64) .no, .dead, .dead, .dead, .dead, .dead, .dead, .dead, .dead, .dead, .dead, .dead, .dead, .dead, .dead, .dead, .dead, .dead, .dead, .dead, .dead, .dead, .dead, .dead, .dead, .dead, .dead, .dead, .dead, .dead, .dead, .dead, .dead, .dead, .dead, .dead, .dead, .dead, .dead, .dead, .dead, .dead, .dead, .dead, .dead, .dead, .dead, .dead, .dead, .dead]
abbrev spec_l20Ok_l0o : List (Ex × List Sh) := [(.ret, [.dead, .dead, .dead, .dead, .val .bool .no, .dead, .dead, .dead, .dead, .dead, .dead, .dead, .dead, .dead, .dead, .dead, .dead, .dead, .dead, .dead, .dead, .dead, .dead, .dead, .dead, .dead, .dead, .dead, .dead, .dead, .dead, .dead, .dead, .dead, .dead, .dead, .dead, .dead, .dead, .dead, .dead, .dead, .dead, .dead, .dead, .dead, .dead, .dead, .dead, .dead, .dead, .dead, .dead, .dead, .dead]), (.exit 0, [.dead, .dead, .dead, .dead, .dead, .dead, .dead, .dead, .dead, .dead, .dead, .dead, .dead, .dead, .dead, .dead, .dead, .dead, .dead, .dead, .dead, .dead, .dead, .dead, .dead, .dead, .dead, .dead, .dead, .dead, .dead, .dead, .dead, .dead, .dead, .dead, .dead, .dead, .dead, .dead, .dead, .dead, .dead, .dead, .dead, .dead, .dead, .dead, .dead, .dead, .dead, .dead, .dead, .dead, .dead])]
def spec_l20Ok_l0_step {β : Type} (F : Nat) (k0 : El .bool × Unit → Option β) (k1 : Unit → Option β) (rec : El (.ptr TiSqsiiiiiip) × El (.sl Tsiii) × El (.int .i64) × Unit → Option β) (x : El (.ptr TiSqsiiiiiip) × El (.sl Tsiii) × El (.int .i64) × Unit) : Option β :=
  cond (decide (x.2.2.1 < (x.2.1.length : Int))) (obind (rdAt x.2.1 x.2.2.1) fun v2 => obind (spec_l20One F v2) fun r3 => cond (!r3.1) (k0 (false, ())) (obind (rdAt x.2.1 x.2.2.1) fun v4 => cond (decide (v4.2.1 ≥ x.1.1)) (k0 (false, ())) (cond (decide (x.2.2.1 > (0 : Int))) (obind (rdAt x.2.1 (IntKind.i64.wrap (x.2.2.1 - (1 : Int)))) fun v5 => obind (rdAt x.2.1 x.2.2.1) fun v6 => cond (!(Op.bytesLess v5.1.toList v6.1.toList)) (k0 (false, ())) (rec (x.1, x.2.1, IntKind.i64.wrap (x.2.2.1 + (1 : Int)), ()))) (rec (x.1, x.2.1, IntKind.i64.wrap (x.2.2.1 + (1 : Int)), ()))))) (k1 (()))
def spec_l20Ok_l0 (F : Nat) : LoopFn where
  n := 55
  sh := spec_l20Ok_l0s
  outs := spec_l20Ok_l0o
  es := [.ret, .exit 0]
  step := fun rec K x => spec_l20Ok_l0_step F K.1 K.2.1 rec x
/-- loop.example/g01021/spec.l20Ok -/
def spec_l20Ok (F : Nat) (x0 : El (.ptr TiSqsiiiiiip)) (x1 : El (.sl Tsiii)) : Option (Outs [(.bool, .no)]) :=
  obind (spec_l04Ok F x0) fun r1 => cond (!r1.1) (some (false, ())) (cond (decide ((x1.length : Int) > (8 : Int))) (some (false, ())) (runP (spec_l20Ok_l0_step F (fun y7 => some (y7.1, ())) (fun y7 => some (true, ()))) none F (x0, x1, (0 : Int), ())))
/-- loop.example/g01021/spec.l24Reading -/
def spec_l24Reading (F : Nat) (x0 : El (.int .i64)) : Option (Outs [(.bool, .no)]) :=
  obind (spec_l00In F x0 (0 : Int) (1000000 : Int)) fun r1 => some (r1.1, ())
/-- loop.example/g01021/spec.l24One -/
def spec_l24One (F : Nat) (x0 : El (.ptr Tsiiii)) : Option (Outs [(.bool, .no)]) :=
  obind (spec_l01Name F x0.1) fun r1 => cond r1.1 (obind (spec_l00In F x0.2.1 (0 : Int) (15 : Int)) fun r2 => cond r2.1 (obind (spec_l24Reading F x0.2.2.1) fun r3 => cond r3.1 (obind (spec_l00In F x0.2.2.2.2.1 (0 : Int) x0.2.2.1) fun r4 => cond r4.1 (obind (spec_l00In F x0.2.2.2.1 (1 : Int) (60 : Int)) fun r5 => some (r5.1, ())) (some (false, ()))) (some (false, ()))) (some (false, ()))) (some (false, ()))
abbrev spec_l24Ok_l0s : List Sh := [.val (.sl Tsiiii) .no, .dead, .dead, .val (.int .i64) .no, .dead, .dead, .dead, .dead, .dead, .dead, .dead, .dead, .dead, .dead, .dead, .dead, .dead, .dead, .dead, .dead, .dead, .dead, .dead, .dead, .dead, .dead, .dead, .dead, .dead, .dead, .dead, .dead, .dead, .dead, .dead, .dead]
abbrev spec_l24Ok_l0o : List (Ex × List Sh) := [(.ret, [.dead, .dead, .val .bool .no, .dead, .dead, .dead, .dead, .dead, .dead, .dead, .dead, .dead, .dead, .dead, .dead, .dead, .dead, .dead, .dead, .dead, .dead, .dead, .dead, .dead, .dead, .dead, .dead, .dead, .dead, .dead, .dead, .dead, .dead, .dead, .dead, .dead]), (.exit 0, [.val (.sl Tsiiii) .no, .dead, .dead, .dead, .dead, .dead, .dead, .dead, .dead, .dead, .dead, .dead, .dead, .dead, .dead, .dead, .dead, .dead, .dead, .dead, .dead, .dead, .dead, .dead, .dead, .dead, .dead, .dead, .dead, .dead, .dead, .dead, .dead, .dead, .dead, .dead])]
def spec_l24Ok_l0_step {β : Type} (F : Nat) (k0 : El .bool × Unit → Option β) (k1 : El (.sl Tsiiii) × Unit → Option β) (rec : El (.sl Tsiiii) × El (.int .i64) × Unit → Option β) (x : El (.sl Tsiiii) × El (.int .i64) × Unit) : Option β :=
  cond (decide (x.2.1 < (x.1.length : Int))) (obind (rdAt x.1 x.2.1) fun v1 => obind (spec_l24One F v1) fun r2 => cond (!r2.1) (k0 (false, ())) (cond (decide (x.2.1 > (0 : Int))) (obind (rdAt x.1 (IntKind.i64.wrap (x.2.1 - (1 : Int)))) fun v3 => obind (rdAt x.1 x.2.1) fun v4 => cond (!(Op.bytesLess v3.1.toList v4.1.toList)) (k0 (false, ())) (rec (x.1, IntKind.i64.wrap (x.2.1 + (1 : Int)), ()))) (rec (x.1, IntKind.i64.wrap (x.2.1 + (1 : Int)), ())))) (k1 (x.1, ()))
def spec_l24Ok_l0 (F : Nat) : LoopFn where
  n := 36
  sh := spec_l24Ok_l0s
  outs := spec_l24Ok_l0o
  es := [.ret, .exit 0]
  step := fun rec K x => spec_l24Ok_l0_step F K.1 K.2.1 rec x
/-- loop.example/g01021/spec.l24Ok -/
def spec_l24Ok (F : Nat) (x0 : El (.sl Tsiiii)) : Option (Outs [(.bool, .no)]) :=
  runP (spec_l24Ok_l0_step F (fun y5 => some (y5.1, ())) (fun y5 => some (decide ((y5.1.length : Int) ≤ (16 : Int)), ()))) none F (x0, (0 : Int), ())
/-- loop.example/g01021/spec.l26Kind -/
def spec_l26Kind (F : Nat) (x0 : El (.int .i64)) : Option (Outs [(.bool, .no)]) :=
  obind (spec_l00In F x0 (1 : Int) (4 : Int)) fun r1 => some (r1.1, ())
/-- loop.example/g01021/spec.l14Airway -/
def spec_l14Airway (F : Nat) (x0 : El (.int .i64)) : Option (Outs [(.bool, .no)]) :=
  obind (spec_l00In F x0 (0 : Int) (23 : Int)) fun r1 => some (r1.1, ())
/-- loop.example/g01021/spec.l26One -/
def spec_l26One (F : Nat) (x0 : El (.ptr Tsiiii)) : Option (Outs [(.bool, .no)]) :=
  obind (spec_l01Name F x0.1) fun r1 => cond r1.1 (obind (spec_l26Kind F x0.2.1) fun r2 => cond r2.1 (obind (spec_l14Airway F x0.2.2.1) fun r3 => cond r3.1 (obind (spec_l00In F x0.2.2.2.1 (0 : Int) (99999 : Int)) fun r4 => cond r4.1 (obind (spec_l00In F x0.2.2.2.2.1 (IntKind.i64.wrap (x0.2.2.2.1 + (1 : Int))) (100000 : Int)) fun r5 => some (r5.1, ())) (some (false, ()))) (some (false, ()))) (some (false, ()))) (some (false, ()))
abbrev spec_l26Ok_l0s : List Sh := [.val (.ptr TiSqsiiiiiip) .no, .val (.sl Tsiiii) .no, .dead, .dead, .dead, .val (.int .i64) .no, .dead, .dead, .dead, .dead, .dead, .dead, .dead, .dead, .dead, .dead, .dead, .dead, .dead, .dead, .dead, .dead, .dead, .dead, .dead, .dead, .dead, .dead, .dead, .dead, .dead, .dead, .dead, .dead, .dead, .dead, .dead, .dead, .dead, .dead, .dead, .dead, .dead, .dead, .dead, .dead, .dead, .dead, .dead, .dead, .dead, .dead, .dead, .dead, .dead, .dead]
abbrev spec_l26Ok_l0o : List (Ex × List Sh) := [(.ret, [.dead, .dead, .dead, .dead, .val .bool .no, .dead, .dead, .dead, .dead, .dead, .dead, .dead, .dead, .dead, .dead, .dead, .dead, .dead, .dead, .dead, .dead, .dead, .dead, .dead, .dead, .dead, .dead, .dead, .dead, .dead, .dead, .dead, .dead, .dead, .dead, .dead, .dead, .dead, .dead, .dead, .dead, .dead, .dead, .dead, .dead, .dead, .dead, .dead, .dead, .dead, .dead, .dead, .dead, .dead, .dead, .dead]), (.exit 0, [.dead, .dead, .dead, .dead, .dead, .dead, .dead, .dead, .dead, .dead, .dead, .dead, .dead, .dead, .dead, .dead, .dead, .dead, .dead, .dead, .dead, .dead, .dead, .dead, .dead, .dead, .dead, .dead, .dead, .dead, .dead, .dead, .dead, .dead, .dead, .dead, .dead, .dead, .dead, .dead, .dead, .dead, .dead, .dead, .dead, .dead, .dead, .dead, .dead, .dead, .dead, .dead, .dead, .dead, .dead, .dead])]
def spec_l26Ok_l0_step {β : Type} (F : Nat) (k0 : El .bool × Unit → Option β) (k1 : Unit → Option β) (rec : El (.ptr TiSqsiiiiiip) × El (.sl Tsiiii) × El (.int .i64) × Unit → Option β) (x : El (.ptr TiSqsiiiiiip) × El (.sl Tsiiii) × El (.int .i64) × Unit) : Option β :=
  cond (decide (x.2.2.1 < (x.2.1.length : Int))) (obind (rdAt x.2.1 x.2.2.1) fun v2 => obind (spec_l26One F v2) fun r3 => cond (!r3.1) (k0 (false, ())) (obind (rdAt x.2.1 x.2.2.1) fun v4 => cond (decide (v4.2.2.1 ≥ (x.1.2.1.length : Int))) (k0 (false, ())) (cond (decide (x.2.2.1 > (0 : Int))) (obind (rdAt x.2.1 (IntKind.i64.wrap (x.2.2.1 - (1 : Int)))) fun v5 => obind (rdAt x.2.1 x.2.2.1) fun v6 => cond (!(Op.bytesLess v5.1.toList v6.1.toList)) (k0 (false, ())) (rec (x.1, x.2.1, IntKind.i64.wrap (x.2.2.1 + (1 : Int)), ()))) (rec (x.1, x.2.1, IntKind.i64.wrap (x.2.2.1 + (1 : Int)), ()))))) (k1 (()))
def spec_l26Ok_l0 (F : Nat) : LoopFn where
  n := 56
  sh := spec_l26Ok_l0s
  outs := spec_l26Ok_l0o
  es := [.ret, .exit 0]
  step := fun rec K x => spec_l26Ok_l0_step F K.1 K.2.1 rec x
/-- loop.example/g01021/spec.l26Ok -/
def spec_l26Ok (F : Nat) (x0 : El (.ptr TiSqsiiiiiip)) (x1 : El (.sl Tsiiii)) : Option (Outs [(.bool, .no)]) :=
  obind (spec_l04Ok F x0) fun r1 => cond (!r1.1) (some (false, ())) (cond (decide ((x1.length : Int) > (16 : Int))) (some (false, ())) (runP (spec_l26Ok_l0_step F (fun y7 => some (y7.1, ())) (fun y7 => some (true, ()))) none F (x0, x1, (0 : Int), ())))
/-- loop.example/g01021/spec.l28Day -/
def spec_l28Day (F : Nat) (x0 : El (.int .i64)) : Option (Outs [(.bool, .no)]) :=
  obind (spec_l00In F x0 (0 : Int) (100000 : Int)) fun r1 => some (r1.1, ())
/-- loop.example/g01021/spec.l28One -/
def spec_l28One (F : Nat) (x0 : El (.ptr Tisiii)) : Option (Outs [(.bool, .no)]) :=
  obind (spec_l28Day F x0.1) fun r1 => cond r1.1 (obind (spec_l01Name F x0.2.1) fun r2 => cond r2.1 (obind (spec_l00In F x0.2.2.1 (1 : Int) (200 : Int)) fun r3 => cond r3.1 (obind (spec_l00In F x0.2.2.2.1 (0 : Int) (36000 : Int)) fun r4 => cond r4.1 (obind (spec_l00In F x0.2.2.2.2.1 (0 : Int) x0.2.2.1) fun r5 => some (r5.1, ())) (some (false, ()))) (some (false, ()))) (some (false, ()))) (some (false, ()))
/-- loop.example/g01021/spec.l28Before -/
def spec_l28Before (F : Nat) (x0 : El (.ptr Tisiii)) (x1 : El (.ptr Tisiii)) : Option (Outs [(.bool, .no)]) :=
  cond (decide (x0.1 < x1.1)) (some (true, ())) (cond (x0.1 == x1.1) (some (Op.bytesLess x0.2.1.toList x1.2.1.toList, ())) (some (false, ())))
abbrev spec_l28Ok_l0s : List Sh := [.val (.sl Tisiii) .no, .dead, .dead, .val (.int .i64) .no, .dead, .dead, .dead, .dead, .dead, .dead, .dead, .dead, .dead, .dead, .dead, .dead, .dead, .dead, .dead, .dead, .dead, .dead, .dead, .dead, .dead, .dead, .dead, .dead, .dead, .dead, .dead, .dead, .dead]
abbrev spec_l28Ok_l0o : List (Ex × List Sh) := [(.ret, [.dead, .dead, .val .bool .no, .dead, .dead, .dead, .dead, .dead, .dead, .dead, .dead, .dead, .dead, .dead, .dead, .dead, .dead, .dead, .dead, .dead, .dead, .dead, .dead, .dead, .dead, .dead, .dead, .dead, .dead, .dead, .dead, .dead, .dead]), (.exit 0, [.val (.sl Tisiii) .no, .dead, .dead, .dead, .dead, .dead, .dead, .dead, .dead, .dead, .dead, .dead, .dead, .dead, .dead, .dead, .dead, .dead, .dead, .dead, .dead, .dead, .dead, .dead, .dead, .dead, .dead, .dead, .dead, .dead, .dead, .dead, .dead])]
def spec_l28Ok_l0_step {β : Type} (F : Nat) (k0 : El .bool × Unit → Option β) (k1 : El (.sl Tisiii) × Unit → Option β) (rec : El (.sl Tisiii) × El (.int .i64) × Unit → Option β) (x : El (.sl Tisiii) × El (.int .i64) × Unit) : Option β :=
  cond (decide (x.2.1 < (x.1.length : Int))) (obind (rdAt x.1 x.2.1) fun v1 => obind (spec_l28One F v1) fun r2 => cond (!r2.1) (k0 (false, ())) (cond (decide (x.2.1 > (0 : Int))) (obind (rdAt x.1 (IntKind.i64.wrap (x.2.1 - (1 : Int)))) fun v3 => obind (rdAt x.1 x.2.1) fun v4 => obind (spec_l28Before F v3 v4) fun r5 => cond (!r5.1) (k0 (false, ())) (rec (x.1, IntKind.i64.wrap (x.2.1 + (1 : Int)), ()))) (rec (x.1, IntKind.i64.wrap (x.2.1 + (1 : Int)), ())))) (k1 (x.1, ()))
def spec_l28Ok_l0 (F : Nat) : LoopFn where
  n := 33
  sh := spec_l28Ok_l0s
  outs := spec_l28Ok_l0o
  es := [.ret, .exit 0]
  step := fun rec K x => spec_l28Ok_l0_step F K.1 K.2.1 rec x
/-- loop.example/g01021/spec.l28Ok -/
def spec_l28Ok (F : Nat) (x0 : El (.sl Tisiii)) : Option (Outs [(.bool, .no)]) :=
  runP (spec_l28Ok_l0_step F (fun y6 => some (y6.1, ())) (fun y6 => some (decide ((y6.1.length : Int) ≤ (32 : Int)), ()))) none F (x0, (0 : Int), ())
/-- loop.example/g01021/spec.l32Ok -/
def spec_l32Ok (F : Nat) (x0 : El (.ptr T5d55a700)) : Option (Outs [(.bool, .no)]) :=
  obind (spec_l04Ok F x0.1) fun r1 => cond r1.1 (obind (spec_l07Res F x0.1 x0.2.1) fun r2 => cond r2.1 (obind (spec_l07Flows F x0.1 x0.2.2.1) fun r3 => cond r3.1 (obind (spec_l06List F x0.2.2.2.1) fun r4 => cond r4.1 (obind (spec_l07Fans F x0.1 x0.2.2.2.1) fun r5 => cond r5.1 (obind (spec_l20Ok F x0.1 x0.2.2.2.2.1) fun r6 => cond r6.1 (obind (spec_l24Ok F x0.2.2.2.2.2.1) fun r7 => cond r7.1 (obind (spec_l26Ok F x0.1 x0.2.2.2.2.2.2.1) fun r8 => cond r8.1 (obind (spec_l28Ok F x0.2.2.2.2.2.2.2.1) fun r9 => some (r9.1, ())) (some (false, ()))) (some (false, ()))) (some (false, ()))) (some (false, ()))) (some (false, ()))) (some (false, ()))) (some (false, ()))) (some (false, ()))
abbrev spec_l01Dec_l1s : List Sh := [.dead, .dead, .dead, .val (.sl (.int .u8)) (.own none .no), .dead, .dead, .val (.sl (.int .u8)) (.own none .no), .val (.int .i64) .no, .dead, .dead, .dead, .dead, .dead, .dead, .dead, .dead, .dead, .dead, .dead, .dead, .dead, .dead, .dead, .dead, .dead, .dead, .dead, .dead, .dead, .dead, .dead, .dead, .dead, .dead, .dead, .dead, .dead, .dead, .dead, .dead, .dead, .dead, .dead, .dead, .dead, .dead, .dead, .dead, .dead, .dead]
abbrev spec_l01Dec_l1o : List (Ex × List Sh) := [(.exit 2, [.dead, .dead, .dead, .dead, .dead, .dead, .val (.sl (.int .u8)) (.own none .no), .dead, .dead, .dead, .dead, .dead, .dead, .dead, .dead, .dead, .dead, .dead, .dead, .dead, .dead, .dead, .dead, .dead, .dead, .dead, .dead, .dead, .dead, .dead, .dead, .dead, .dead, .dead, .dead, .dead, .dead, .dead, .dead, .dead, .dead, .dead, .dead, .dead, .dead, .dead, .dead, .dead, .dead, .dead])]
def spec_l01Dec_l1_step {β : Type} (F : Nat) (k0 : El (.sl (.int .u8)) × Unit → Option β) (rec : El (.sl (.int .u8)) × El (.sl (.int .u8)) × El (.int .i64) × Unit → Option β) (x : El (.sl (.int .u8)) × El (.sl (.int .u8)) × El (.int .i64) × Unit) : Option β :=
  cond (decide (x.2.2.1 ≥ (0 : Int))) (obind (rdAt x.1 x.2.2.1) fun v2 => guardB (decide ((x.2.1.length + ([v2]).length) * 1 ≤ 140737488355328)) (rec (x.1, x.2.1 ++ ([v2]), IntKind.i64.wrap (x.2.2.1 - (1 : Int)), ()))) (k0 (x.2.1, ()))
def spec_l01Dec_l1 (F : Nat) : LoopFn where
  n := 50
  sh := spec_l01Dec_l1s
  outs := spec_l01Dec_l1o
  es := [.exit 2]
  step := fun rec K x => spec_l01Dec_l1_step F K.1 rec x
abbrev spec_l01Dec_l0s : List Sh := [.val (.int .i64) .no, .dead, .dead, .val (.sl (.int .u8)) (.own none .no), .val (.int .i64) .no, .dead, .dead, .dead, .dead, .dead, .dead, .dead, .dead, .dead, .dead, .dead, .dead, .dead, .dead, .dead, .dead, .dead, .dead, .dead, .dead, .dead, .dead, .dead, .dead, .dead, .dead, .dead, .dead, .dead, .dead, .dead, .dead, .dead, .dead, .dead, .dead, .dead, .dead, .dead, .dead, .dead, .dead, .dead, .dead, .dead]
abbrev spec_l01Dec_l0o : List (Ex × List Sh) := [(.exit 0, [.val (.int .i64) .no, .dead, .dead, .val (.sl (.int .u8)) (.own none .no), .dead, .dead, .dead, .dead, .dead, .dead, .dead, .dead, .dead, .dead, .dead, .dead, .dead, .dead, .dead, .dead, .dead, .dead, .dead, .dead, .dead, .dead, .dead, .dead, .dead, .dead, .dead, .dead, .dead, .dead, .dead, .dead, .dead, .dead, .dead, .dead, .dead, .dead, .dead, .dead, .dead, .dead, .dead, .dead, .dead, .dead])]
def spec_l01Dec_l0_step {β : Type} (F : Nat) (k0 : El (.int .i64) × El (.sl (.int .u8)) × Unit → Option β) (rec : El (.int .i64) × El (.sl (.int .u8)) × El (.int .i64) × Unit → Option β) (x : El (.int .i64) × El (.sl (.int .u8)) × El (.int .i64) × Unit) : Option β :=
  cond (x.2.2.1 != (0 : Int)) (cond (decide ((x.2.2.1.tmod (10 : Int)) < (0 : Int))) (guardB (decide ((x.2.1.length + ([IntKind.u8.wrap (IntKind.i64.wrap ((48 : Int) + (IntKind.i64.wrap (0 - (x.2.2.1.tmod (10 : Int))))))]).length) * 1 ≤ 140737488355328)) (rec (x.1, x.2.1 ++ ([IntKind.u8.wrap (IntKind.i64.wrap ((48 : Int) + (IntKind.i64.wrap (0 - (x.2.2.1.tmod (10 : Int))))))]), IntKind.i64.wrap (x.2.2.1.tdiv (10 : Int)), ()))) (guardB (decide ((x.2.1.length + ([IntKind.u8.wrap (IntKind.i64.wrap ((48 : Int) + (x.2.2.1.tmod (10 : Int))))]).length) * 1 ≤ 140737488355328)) (rec (x.1, x.2.1 ++ ([IntKind.u8.wrap (IntKind.i64.wrap ((48 : Int) + (x.2.2.1.tmod (10 : Int))))]), IntKind.i64.wrap (x.2.2.1.tdiv (10 : Int)), ())))) (k0 (x.1, x.2.1, ()))
def spec_l01Dec_l0 (F : Nat) : LoopFn where
  n := 50
  sh := spec_l01Dec_l0s
  outs := spec_l01Dec_l0o
  es := [.exit 0]
  step := fun rec K x => spec_l01Dec_l0_step F K.1 rec x
/-- loop.example/g01021/spec.l01Dec -/
def spec_l01Dec (F : Nat) (x0 : El (.int .i64)) : Option (Outs [(.str, .no)]) :=
  cond (x0 == (0 : Int)) (some ((⟨#[48]⟩ : ByteArray), ())) (runP (spec_l01Dec_l0_step F (fun y1 => cond (decide (y1.1 < (0 : Int))) (guardB (decide ((y1.2.1.length + ([(45 : Int)]).length) * 1 ≤ 140737488355328)) (runP (spec_l01Dec_l1_step F (fun y3 => some (bytesOf y3.1, ()))) none F (y1.2.1 ++ ([(45 : Int)]), [], IntKind.i64.wrap (((y1.2.1 ++ ([(45 : Int)])).length : Int) - (1 : Int)), ()))) (runP (spec_l01Dec_l1_step F (fun y4 => some (bytesOf y4.1, ()))) none F (y1.2.1, [], IntKind.i64.wrap ((y1.2.1.length : Int) - (1 : Int)), ())))) none F (x0, [], x0, ()))
abbrev spec_DeskReport_l0s : List Sh := [.dead, .dead, .dead, .dead, .val (.sl .str) (.own none .no), .val (.sl (.int .i64)) (.own none .no), .val (.sl .str) (.own none .no), .val (.int .i64) .no, .dead, .dead, .dead, .dead, .dead, .dead, .dead, .dead, .dead, .dead, .dead, .dead, .dead, .dead, .dead, .dead, .dead, .dead, .dead, .dead, .dead, .dead, .dead, .dead, .dead, .dead, .dead, .dead, .dead, .dead, .dead, .dead, .dead, .dead, .dead, .dead, .dead, .dead, .dead, .dead, .dead, .dead, .dead, .dead, .dead, .dead, .dead, .dead]
abbrev spec_DeskReport_l0o : List (Ex × List Sh) := [(.exit 0, [.dead, .dead, .dead, .dead, .dead, .dead, .val (.sl .str) (.own none .no), .dead, .dead, .dead, .dead, .dead, .dead, .dead, .dead, .dead, .dead, .dead, .dead, .dead, .dead, .dead, .dead, .dead, .dead, .dead, .dead, .dead, .dead, .dead, .dead, .dead, .dead, .dead, .dead, .dead, .dead, .dead, .dead, .dead, .dead, .dead, .dead, .dead, .dead, .dead, .dead, .dead, .dead, .dead, .dead, .dead, .dead, .dead, .dead, .dead])]
def spec_DeskReport_l0_step {β : Type} (F : Nat) (k0 : El (.sl .str) × Unit → Option β) (rec : El (.sl .str) × El (.sl (.int .i64)) × El (.sl .str) × El (.int .i64) × Unit → Option β) (x : El (.sl .str) × El (.sl (.int .i64)) × El (.sl .str) × El (.int .i64) × Unit) : Option β :=
  cond (decide (x.2.2.2.1 < (x.1.length : Int))) (obind (rdAt x.1 x.2.2.2.1) fun v2 => guardB (decide (v2.size + (⟨#[32]⟩ : ByteArray).size ≤ 9223372036854775807)) (obind (rdAt x.2.1 x.2.2.2.1) fun v3 => obind (spec_l01Dec F v3) fun r4 => guardB (decide ((v2 ++ (⟨#[32]⟩ : ByteArray)).size + r4.1.size ≤ 9223372036854775807)) (guardB (decide ((x.2.2.1.length + ([(v2 ++ (⟨#[32]⟩ : ByteArray)) ++ r4.1]).length) * 16 ≤ 140737488355328)) (rec (x.1, x.2.1, x.2.2.1 ++ ([(v2 ++ (⟨#[32]⟩ : ByteArray)) ++ r4.1]), IntKind.i64.wrap (x.2.2.2.1 + (1 : Int)), ()))))) (k0 (x.2.2.1, ()))
def spec_DeskReport_l0 (F : Nat) : LoopFn where
  n := 56
  sh := spec_DeskReport_l0s
  outs := spec_DeskReport_l0o
  es := [.exit 0]
  step := fun rec K x => spec_DeskReport_l0_step F K.1 rec x
/-- loop.example/g01021/spec.DeskReport -/
def spec_DeskReport (F : Nat) (x0 : El T5d55a700) : Option (Outs [((.sl .str), (.own none .no)), ((.int .i64), .no)]) :=
  obind (spec_l32Ok F x0) fun r1 => cond (!r1.1) (some ([], (1 : Int), ())) (runP (spec_DeskReport_l0_step F (fun y5 => some (y5.1, (0 : Int), ()))) none F ([(⟨#[106, 117, 110, 99, 116, 105, 111, 110, 115]⟩ : ByteArray), (⟨#[97, 105, 114, 119, 97, 121, 115]⟩ : ByteArray), (⟨#[102, 97, 110, 115]⟩ : ByteArray), (⟨#[114, 101, 102, 117, 103, 101, 115]⟩ : ByteArray), (⟨#[115, 101, 110, 115, 111, 114, 115]⟩ : ByteArray), (⟨#[112, 101, 114, 109, 105, 116, 115]⟩ : ByteArray), (⟨#[100, 114, 105, 108, 108, 115]⟩ : ByteArray)], [x0.1.1, (x0.1.2.1.length : Int), (x0.2.2.2.1.length : Int), (x0.2.2.2.2.1.length : Int), (x0.2.2.2.2.2.1.length : Int), (x0.2.2.2.2.2.2.1.length : Int), (x0.2.2.2.2.2.2.2.1.length : Int)], [], (0 : Int), ()))
/-- loop.example/g01021/impl.within -/
def impl_within (F : Nat) (x0 : El (.int .i64)) (x1 : El (.int .i64)) (x2 : El (.int .i64)) : Option (Outs [(.bool, .no)]) :=
  cond (decide (x0 ≥ x1)) (some (decide (x0 ≤ x2), ())) (some (false, ()))
abbrev impl_onlyNameBytes_l0s : List Sh := [.val .str .no, .dead, .dead, .dead, .dead, .dead, .val (.int .i64) .no, .val (.int .i64) .no, .dead, .dead, .dead, .dead, .dead, .dead, .dead, .dead, .dead, .dead, .dead, .dead, .dead, .dead, .dead, .dead, .dead, .dead, .dead, .dead]
abbrev impl_onlyNameBytes_l0o : List (Ex × List Sh) := [(.ret, [.dead, .dead, .val .bool .no, .dead, .dead, .dead, .dead, .dead, .dead, .dead, .dead, .dead, .dead, .dead, .dead, .dead, .dead, .dead, .dead, .dead, .dead, .dead, .dead, .dead, .dead, .dead, .dead, .dead]), (.exit 0, [.dead, .dead, .dead, .dead, .dead, .dead, .dead, .dead, .dead, .dead, .dead, .dead, .dead, .dead, .dead, .dead, .dead, .dead, .dead, .dead, .dead, .dead, .dead, .dead, .dead, .dead, .dead, .dead])]
def impl_onlyNameBytes_l0_step {β : Type} (F : Nat) (k0 : El .bool × Unit → Option β) (k1 : Unit → Option β) (rec : El .str × El (.int .i64) × El (.int .i64) × Unit → Option β) (x : El .str × El (.int .i64) × El (.int .i64) × Unit) : Option β :=
  cond (decide (x.2.2.1 < x.2.1)) (obind (btAt x.1 x.2.2.1) fun v1 => cond (decide (v1 < (97 : Int))) (cond (decide (v1 < (48 : Int))) (k0 (false, ())) (cond (decide (v1 > (57 : Int))) (k0 (false, ())) (rec (x.1, x.2.1, IntKind.i64.wrap (x.2.2.1 + (1 : Int)), ())))) (cond (decide (v1 > (122 : Int))) (cond (decide (v1 < (48 : Int))) (k0 (false, ())) (cond (decide (v1 > (57 : Int))) (k0 (false, ())) (rec (x.1, x.2.1, IntKind.i64.wrap (x.2.2.1 + (1 : Int)), ())))) (rec (x.1, x.2.1, IntKind.i64.wrap (x.2.2.1 + (1 : Int)), ())))) (k1 (()))
def impl_onlyNameBytes_l0 (F : Nat) : LoopFn where
  n := 28
  sh := impl_onlyNameBytes_l0s
  outs := impl_onlyNameBytes_l0o
  es := [.ret, .exit 0]
  step := fun rec K x => impl_onlyNameBytes_l0_step F K.1 K.2.1 rec x
/-- loop.example/g01021/impl.onlyNameBytes -/
def impl_onlyNameBytes (F : Nat) (x0 : El .str) : Option (Outs [(.bool, .no)]) :=
  runP (impl_onlyNameBytes_l0_step F (fun y2 => some (y2.1, ())) (fun y2 => some (true, ()))) none F (x0, (x0.size : Int), (0 : Int), ())
/-- loop.example/g01021/impl.IsName -/
def impl_IsName (F : Nat) (x0 : El .str) : Option (Outs [(.bool, .no)]) :=
  cond (decide ((x0.size : Int) < (1 : Int))) (some (false, ())) (cond (decide ((x0.size : Int) > (10 : Int))) (some (false, ())) (obind (btAt x0 (0 : Int)) fun v1 => cond (decide (v1 < (97 : Int))) (some (false, ())) (obind (btAt x0 (0 : Int)) fun v2 => cond (decide (v2 > (122 : Int))) (some (false, ())) (obind (impl_onlyNameBytes F x0) fun r3 => some (r3.1, ())))))
/-- loop.example/g01021/impl.junctionOk -/
def impl_junctionOk (F : Nat) (x0 : El (.int .i64)) : Option (Outs [(.bool, .no)]) :=
  obind (impl_within F x0 (0 : Int) (15 : Int)) fun r1 => some (r1.1, ())
/-- loop.example/g01021/impl.ValidAirway -/
def impl_ValidAirway (F : Nat) (x0 : El Tsiiiiii) : Option (Outs [(.bool, .no)]) :=
  obind (impl_IsName F x0.1) fun r1 => cond r1.1 (obind (impl_junctionOk F x0.2.1) fun r2 => cond r2.1 (obind (impl_junctionOk F x0.2.2.1) fun r3 => cond r3.1 (cond (x0.2.1 != x0.2.2.1) (obind (impl_within F x0.2.2.2.1 (1 : Int) (10000 : Int)) fun r4 => cond r4.1 (obind (impl_within F x0.2.2.2.2.1 (50 : Int) (5000 : Int)) fun r5 => cond r5.1 (obind (impl_within F x0.2.2.2.2.2.1 (1 : Int) (1000 : Int)) fun r6 => cond r6.1 (obind (impl_within F x0.2.2.2.2.2.2.1 (0 : Int) (1000 : Int)) fun r7 => some (r7.1, ())) (some (false, ()))) (some (false, ()))) (some (false, ()))) (some (false, ()))) (some (false, ()))) (some (false, ()))) (some (false, ()))
/-- (loop.example/g01021/impl.Mine).hasJunction -/
def impl_Mine_hasJunction (F : Nat) (x0 : El TiSqsiiiiiip) (x1 : El (.int .i64)) : Option (Outs [(.bool, .no)]) :=
  obind (impl_within F x1 (0 : Int) (IntKind.i64.wrap (x0.1 - (1 : Int)))) fun r1 => some (r1.1, ())
/-- (loop.example/g01021/impl.Mine).hasEnds -/
def impl_Mine_hasEnds (F : Nat) (x0 : El TiSqsiiiiiip) (x1 : El Tsiiiiii) : Option (Outs [(.bool, .no)]) :=
  obind (impl_Mine_hasJunction F x0 x1.2.1) fun r1 => cond r1.1 (obind (impl_Mine_hasJunction F x0 x1.2.2.1) fun r2 => some (r2.1, ())) (some (false, ()))
abbrev impl_ValidMine_l0s : List Sh := [.dead, .box none TiSqsiiiiiip (.pr .no (.pr .no .no)), .dead, .dead, .dead, .dead, .dead, .dead, .dead, .dead, .dead, .dead, .dead, .dead, .dead, .dead, .val (.sl Tsiiiiii) .no, .val (.int .i64) .no, .val (.int .i64) .no, .dead, .dead, .dead, .dead, .dead, .dead, .dead, .dead, .dead, .dead, .dead, .dead, .dead, .dead, .dead, .dead, .dead, .dead, .dead, .dead, .dead, .dead, .dead, .dead, .dead, .dead, .dead, .dead, .dead, .dead]
abbrev impl_ValidMine_l0o : List (Ex × List Sh) := [(.ret, [.dead, .dead, .val .bool .no, .dead, .dead, .dead, .dead, .dead, .dead, .dead, .dead, .dead, .dead, .dead, .dead, .dead, .dead, .dead, .dead, .dead, .dead, .dead, .dead, .dead, .dead, .dead, .dead, .dead, .dead, .dead, .dead, .dead, .dead, .dead, .dead, .dead, .dead, .dead, .dead, .dead, .dead, .dead, .dead, .dead, .dead, .dead, .dead, .dead, .dead]), (.exit 0, [.dead, .dead, .dead, .dead, .dead, .dead, .dead, .dead, .dead, .dead, .dead, .dead, .dead, .dead, .dead, .dead, .dead, .dead, .dead, .dead, .dead, .dead, .dead, .dead, .dead, .dead, .dead, .dead, .dead, .dead, .dead, .dead, .dead, .dead, .dead, .dead, .dead, .dead, .dead, .dead, .dead, .dead, .dead, .dead, .dead, .dead, .dead, .dead, .dead])]
def impl_ValidMine_l0_step {β : Type} (F : Nat) (k0 : El .bool × Unit → Option β) (k1 : Unit → Option β) (rec : El TiSqsiiiiiip × El (.sl Tsiiiiii) × El (.int .i64) × El (.int .i64) × Unit → Option β) (x : El TiSqsiiiiiip × El (.sl Tsiiiiii) × El (.int .i64) × El (.int .i64) × Unit) : Option β :=
  cond (decide (x.2.2.2.1 < x.2.2.1)) (obind (rdAt x.2.1 x.2.2.2.1) fun v2 => obind (impl_ValidAirway F v2) fun r3 => cond (!r3.1) (k0 (false, ())) (obind (impl_Mine_hasEnds F x.1 v2) fun r4 => cond (!r4.1) (k0 (false, ())) (cond (decide (x.2.2.2.1 > (0 : Int))) (obind (rdAt x.1.2.1 (IntKind.i64.wrap (x.2.2.2.1 - (1 : Int)))) fun v5 => cond (Op.bytesLess v2.1.toList v5.1.toList || (v2.1.toList == v5.1.toList)) (k0 (false, ())) (rec (x.1, x.2.1, x.2.2.1, IntKind.i64.wrap (x.2.2.2.1 + (1 : Int)), ()))) (rec (x.1, x.2.1, x.2.2.1, IntKind.i64.wrap (x.2.2.2.1 + (1 : Int)), ()))))) (k1 (()))
def impl_ValidMine_l0 (F : Nat) : LoopFn where
  n := 49
  sh := impl_ValidMine_l0s
  outs := impl_ValidMine_l0o
  es := [.ret, .exit 0]
  step := fun rec K x => impl_ValidMine_l0_step F K.1 K.2.1 rec x
/-- loop.example/g01021/impl.ValidMine -/
def impl_ValidMine (F : Nat) (x0 : El TiSqsiiiiiip) : Option (Outs [(.bool, .no)]) :=
  obind (impl_within F x0.1 (1 : Int) (16 : Int)) fun r1 => cond (!r1.1) (some (false, ())) (cond (decide ((x0.2.1.length : Int) > (24 : Int))) (some (false, ())) (runP (impl_ValidMine_l0_step F (fun y6 => some (y6.1, ())) (fun y6 => some (true, ()))) none F (x0, x0.2.1, (x0.2.1.length : Int), (0 : Int), ())))
/-- loop.example/g01021/impl.allWithin$1 -/
def impl_allWithin_1 (F : Nat) (x0 : El (.int .i64)) (x1 : El (.ptr (.int .i64))) (x2 : El (.ptr (.int .i64))) : Option (Outs [(.bool, .no)]) :=
  obind (impl_within F x0 x1 x2) fun r1 => some (!r1.1, ())
abbrev slices_IndexFunc_Sint64_int64_l0s : List Sh := [.val (.sl (.int .i64)) .no, .val (.fn 166 (.prod (.ptr (.int .i64)) (.prod (.ptr (.int .i64)) .unit))) .no, .dead, .dead, .dead, .dead, .dead, .val (.int .i64) .no, .val (.int .i64) .no, .dead, .dead, .dead, .dead, .dead, .dead, .dead, .dead, .dead, .dead]
abbrev slices_IndexFunc_Sint64_int64_l0o : List (Ex × List Sh) := [(.ret, [.dead, .dead, .dead, .dead, .val (.int .i64) .no, .dead, .dead, .dead, .dead, .dead, .dead, .dead, .dead, .dead, .dead, .dead, .dead, .dead, .dead]), (.exit 0, [.dead, .dead, .dead, .dead, .dead, .dead, .dead, .dead, .dead, .dead, .dead, .dead, .dead, .dead, .dead, .dead, .dead, .dead, .dead])]
def slices_IndexFunc_Sint64_int64_l0_step {β : Type} (F : Nat) (k0 : El (.int .i64) × Unit → Option β) (k1 : Unit → Option β) (rec : El (.sl (.int .i64)) × El (.fn 166 (.prod (.ptr (.int .i64)) (.prod (.ptr (.int .i64)) .unit))) × El (.int .i64) × El (.int .i64) × Unit → Option β) (x : El (.sl (.int .i64)) × El (.fn 166 (.prod (.ptr (.int .i64)) (.prod (.ptr (.int .i64)) .unit))) × El (.int .i64) × El (.int .i64) × Unit) : Option β :=
  cond (decide (x.2.2.2.1 < x.2.2.1)) (obind (rdAt x.1 x.2.2.2.1) fun v1 => obind (impl_allWithin_1 F v1 x.2.1.1 x.2.1.2.1) fun r2 => cond r2.1 (k0 (x.2.2.2.1, ())) (rec (x.1, x.2.1, x.2.2.1, IntKind.i64.wrap (x.2.2.2.1 + (1 : Int)), ()))) (k1 (()))
def slices_IndexFunc_Sint64_int64_l0 (F : Nat) : LoopFn where
  n := 19
  sh := slices_IndexFunc_Sint64_int64_l0s
  outs := slices_IndexFunc_Sint64_int64_l0o
  es := [.ret, .exit 0]
  step := fun rec K x => slices_IndexFunc_Sint64_int64_l0_step F K.1 K.2.1 rec x
/-- slices.IndexFunc[[]int64,int64] -/
def slices_IndexFunc_Sint64_int64 (F : Nat) (x0 : El (.sl (.int .i64))) (x1 : El (.fn 166 (.prod (.ptr (.int .i64)) (.prod (.ptr (.int .i64)) .unit)))) : Option (Outs [((.int .i64), .no)]) :=
  runP (slices_IndexFunc_Sint64_int64_l0_step F (fun y3 => some (y3.1, ())) (fun y3 => some ((-1 : Int), ()))) none F (x0, x1, (x0.length : Int), (0 : Int), ())
/-- slices.ContainsFunc[[]int64,int64] -/
def slices_ContainsFunc_Sint64_int64 (F : Nat) (x0 : El (.sl (.int .i64))) (x1 : El (.fn 166 (.prod (.ptr (.int .i64)) (.prod (.ptr (.int .i64)) .unit)))) : Option (Outs [(.bool, .no)]) :=
  obind (slices_IndexFunc_Sint64_int64 F x0 x1) fun r1 => some (decide (r1.1 ≥ (0 : Int)), ())
/-- loop.example/g01021/impl.allWithin -/
def impl_allWithin (F : Nat) (x0 : El (.sl (.int .i64))) (x1 : El (.int .i64)) (x2 : El (.int .i64)) : Option (Outs [(.bool, .no)]) :=
  obind (slices_ContainsFunc_Sint64_int64 F x0 (x1, (x2, ()))) fun r1 => some (!r1.1, ())
/-- (loop.example/g01021/impl.Mine).hasList -/
def impl_Mine_hasList (F : Nat) (x0 : El TiSqsiiiiiip) (x1 : El (.sl (.int .i64))) (x2 : El (.int .i64)) (x3 : El (.int .i64)) : Option (Outs [(.bool, .no)]) :=
  cond ((x1.length : Int) == (x0.2.1.length : Int)) (obind (impl_allWithin F x1 x2 x3) fun r1 => some (r1.1, ())) (some (false, ()))
/-- (loop.example/g01021/impl.Mine).hasFlows -/
def impl_Mine_hasFlows (F : Nat) (x0 : El TiSqsiiiiiip) (x1 : El (.sl (.int .i64))) : Option (Outs [(.bool, .no)]) :=
  obind (impl_Mine_hasList F x0 x1 (-100000 : Int) (100000 : Int)) fun r1 => some (r1.1, ())
abbrev impl_ValidFan_l0s : List Sh := [.dead, .box none TsiSSi (.pr .no (.pr .no (.pr .no .no))), .dead, .dead, .dead, .dead, .dead, .dead, .dead, .dead, .dead, .dead, .dead, .dead, .dead, .dead, .dead, .dead, .dead, .dead, .dead, .dead, .dead, .dead, .dead, .dead, .dead, .dead, .val (.sl (.sl (.int .i64))) .no, .val (.int .i64) .no, .val (.int .i64) .no, .dead, .dead, .dead, .dead, .dead, .dead, .dead, .dead, .dead, .dead, .dead, .dead, .dead, .dead, .dead, .dead, .dead, .dead, .dead, .dead, .dead, .dead, .dead, .dead, .dead, .dead, .dead, .dead, .dead, .dead, .dead, .dead, .dead, .dead, .dead, .dead, .dead, .dead, .dead, .dead, .dead, .dead, .dead, .dead, .dead, .dead, .dead, .dead, .dead, .dead, .dead, .dead, .dead, .dead]
abbrev impl_ValidFan_l0o : List (Ex × List Sh) := [(.ret, [.dead, .dead, .val .bool .no, .dead, .dead, .dead, .dead, .dead, .dead, .dead, .dead, .dead, .dead, .dead, .dead, .dead, .dead, .dead, .dead, .dead, .dead, .dead, .dead, .dead, .dead, .dead, .dead, .dead, .dead, .dead, .dead, .dead, .dead, .dead, .dead, .dead, .dead, .dead, .dead, .dead, .dead, .dead, .dead, .dead, .dead, .dead, .dead, .dead, .dead, .dead, .dead, .dead, .dead, .dead, .dead, .dead, .dead, .dead, .dead, .dead, .dead, .dead, .dead, .dead, .dead, .dead, .dead, .dead, .dead, .dead, .dead, .dead, .dead, .dead, .dead, .dead, .dead, .dead, .dead, .dead, .dead, .dead, .dead, .dead, .dead]), (.exit 0, [.dead, .dead, .dead, .dead, .dead, .dead, .dead, .dead, .dead, .dead, .dead, .dead, .dead, .dead, .dead, .dead, .dead, .dead, .dead, .dead, .dead, .dead, .dead, .dead, .dead, .dead, .dead, .dead, .dead, .dead, .dead, .dead, .dead, .dead, .dead, .dead, .dead, .dead, .dead, .dead, .dead, .dead, .dead, .dead, .dead, .dead, .dead, .dead, .dead, .dead, .dead, .dead, .dead, .dead, .dead, .dead, .dead, .dead, .dead, .dead, .dead, .dead, .dead, .dead, .dead, .dead, .dead, .dead, .dead, .dead, .dead, .dead, .dead, .dead, .dead, .dead, .dead, .dead, .dead, .dead, .dead, .dead, .dead, .dead, .dead])]
def impl_ValidFan_l0_step {β : Type} (F : Nat) (k0 : El .bool × Unit → Option β) (k1 : Unit → Option β) (rec : El TsiSSi × El (.sl (.sl (.int .i64))) × El (.int .i64) × El (.int .i64) × Unit → Option β) (x : El TsiSSi × El (.sl (.sl (.int .i64))) × El (.int .i64) × El (.int .i64) × Unit) : Option β :=
  cond (decide (x.2.2.2.1 < x.2.2.1)) (obind (rdAt x.2.1 x.2.2.2.1) fun v3 => cond ((v3.length : Int) != (2 : Int)) (k0 (false, ())) (obind (rdAt v3 (0 : Int)) fun v4 => obind (impl_within F v4 (0 : Int) (100000 : Int)) fun r5 => cond (!r5.1) (k0 (false, ())) (obind (rdAt v3 (1 : Int)) fun v6 => obind (impl_within F v6 (0 : Int) (10000 : Int)) fun r7 => cond (!r7.1) (k0 (false, ())) (cond (decide (x.2.2.2.1 > (0 : Int))) (obind (rdAt v3 (0 : Int)) fun v8 => obind (rdAt x.1.2.2.1 (IntKind.i64.wrap (x.2.2.2.1 - (1 : Int)))) fun v9 => obind (rdAt v9 (0 : Int)) fun v10 => cond (decide (v8 ≤ v10)) (k0 (false, ())) (obind (rdAt v3 (1 : Int)) fun v11 => obind (rdAt x.1.2.2.1 (IntKind.i64.wrap (x.2.2.2.1 - (1 : Int)))) fun v12 => obind (rdAt v12 (1 : Int)) fun v13 => cond (decide (v11 > v13)) (k0 (false, ())) (rec (x.1, x.2.1, x.2.2.1, IntKind.i64.wrap (x.2.2.2.1 + (1 : Int)), ())))) (rec (x.1, x.2.1, x.2.2.1, IntKind.i64.wrap (x.2.2.2.1 + (1 : Int)), ())))))) (k1 (()))
def impl_ValidFan_l0 (F : Nat) : LoopFn where
  n := 85
  sh := impl_ValidFan_l0s
  outs := impl_ValidFan_l0o
  es := [.ret, .exit 0]
  step := fun rec K x => impl_ValidFan_l0_step F K.1 K.2.1 rec x
/-- loop.example/g01021/impl.ValidFan -/
def impl_ValidFan (F : Nat) (x0 : El TsiSSi) : Option (Outs [(.bool, .no)]) :=
  obind (impl_IsName F x0.1) fun r1 => cond (!r1.1) (some (false, ())) (obind (impl_within F x0.2.1 (0 : Int) (23 : Int)) fun r2 => cond (!r2.1) (some (false, ())) (cond (decide ((x0.2.2.1.length : Int) < (2 : Int))) (some (false, ())) (cond (decide ((x0.2.2.1.length : Int) > (8 : Int))) (some (false, ())) (runP (impl_ValidFan_l0_step F (fun y14 => some (y14.1, ())) (fun y14 => some (true, ()))) none F (x0, x0.2.2.1, (x0.2.2.1.length : Int), (0 : Int), ())))))
abbrev impl_ValidFans_l0s : List Sh := [.val (.sl TsiSSi) .no, .dead, .dead, .dead, .dead, .dead, .dead, .dead, .val (.sl TsiSSi) .no, .val (.int .i64) .no, .val (.int .i64) .no, .dead, .dead, .dead, .dead, .dead, .dead, .dead, .dead, .dead, .dead, .dead, .dead, .dead, .dead, .dead, .dead, .dead, .dead, .dead, .dead, .dead, .dead, .dead]
abbrev impl_ValidFans_l0o : List (Ex × List Sh) := [(.ret, [.dead, .dead, .val .bool .no, .dead, .dead, .dead, .dead, .dead, .dead, .dead, .dead, .dead, .dead, .dead, .dead, .dead, .dead, .dead, .dead, .dead, .dead, .dead, .dead, .dead, .dead, .dead, .dead, .dead, .dead, .dead, .dead, .dead, .dead, .dead]), (.exit 0, [.dead, .dead, .dead, .dead, .dead, .dead, .dead, .dead, .dead, .dead, .dead, .dead, .dead, .dead, .dead, .dead, .dead, .dead, .dead, .dead, .dead, .dead, .dead, .dead, .dead, .dead, .dead, .dead, .dead, .dead, .dead, .dead, .dead, .dead])]
def impl_ValidFans_l0_step {β : Type} (F : Nat) (k0 : El .bool × Unit → Option β) (k1 : Unit → Option β) (rec : El (.sl TsiSSi) × El (.sl TsiSSi) × El (.int .i64) × El (.int .i64) × Unit → Option β) (x : El (.sl TsiSSi) × El (.sl TsiSSi) × El (.int .i64) × El (.int .i64) × Unit) : Option β :=
  cond (decide (x.2.2.2.1 < x.2.2.1)) (obind (rdAt x.2.1 x.2.2.2.1) fun v1 => obind (impl_ValidFan F v1) fun r2 => cond (!r2.1) (k0 (false, ())) (cond (decide (x.2.2.2.1 > (0 : Int))) (obind (rdAt x.1 (IntKind.i64.wrap (x.2.2.2.1 - (1 : Int)))) fun v3 => cond (Op.bytesLess v1.1.toList v3.1.toList || (v1.1.toList == v3.1.toList)) (k0 (false, ())) (rec (x.1, x.2.1, x.2.2.1, IntKind.i64.wrap (x.2.2.2.1 + (1 : Int)), ()))) (rec (x.1, x.2.1, x.2.2.1, IntKind.i64.wrap (x.2.2.2.1 + (1 : Int)), ())))) (k1 (()))
def impl_ValidFans_l0 (F : Nat) : LoopFn where
  n := 34
  sh := impl_ValidFans_l0s
  outs := impl_ValidFans_l0o
  es := [.ret, .exit 0]
  step := fun rec K x => impl_ValidFans_l0_step F K.1 K.2.1 rec x
/-- loop.example/g01021/impl.ValidFans -/
def impl_ValidFans (F : Nat) (x0 : El (.sl TsiSSi)) : Option (Outs [(.bool, .no)]) :=
  cond (decide ((x0.length : Int) > (8 : Int))) (some (false, ())) (runP (impl_ValidFans_l0_step F (fun y4 => some (y4.1, ())) (fun y4 => some (true, ()))) none F (x0, x0, (x0.length : Int), (0 : Int), ()))
/-- loop.example/g01021/impl.indexValid[loop.example/g01021/impl.Airway] -/
def impl_indexValid_Airway (F : Nat) (x0 : El (.sl Tsiiiiii)) (x1 : El (.int .i64)) : Option (Outs [(.bool, .no)]) :=
  obind (impl_within F x1 (0 : Int) (IntKind.i64.wrap ((x0.length : Int) - (1 : Int)))) fun r1 => some (r1.1, ())
/-- (loop.example/g01021/impl.Mine).hasFans$1 -/
def impl_Mine_hasFans_1 (F : Nat) (x0 : El TsiSSi) (x1 : El (.ptr TiSqsiiiiiip)) : Option (Outs [(.bool, .no)]) :=
  obind (impl_indexValid_Airway F x1.2.1 x0.2.1) fun r1 => some (!r1.1, ())
abbrev slices_IndexFunc_SFan_Fan_l0s : List Sh := [.val (.sl TsiSSi) .no, .val (.fn 141 (.prod (.ptr TiSqsiiiiiip) .unit)) .no, .dead, .dead, .dead, .dead, .dead, .val (.int .i64) .no, .val (.int .i64) .no, .dead, .dead, .dead, .dead, .dead, .dead, .dead, .dead, .dead, .dead]
abbrev slices_IndexFunc_SFan_Fan_l0o : List (Ex × List Sh) := [(.ret, [.dead, .dead, .dead, .dead, .val (.int .i64) .no, .dead, .dead, .dead, .dead, .dead, .dead, .dead, .dead, .dead, .dead, .dead, .dead, .dead, .dead]), (.exit 0, [.dead, .dead, .dead, .dead, .dead, .dead, .dead, .dead, .dead, .dead, .dead, .dead, .dead, .dead, .dead, .dead, .dead, .dead, .dead])]
def slices_IndexFunc_SFan_Fan_l0_step {β : Type} (F : Nat) (k0 : El (.int .i64) × Unit → Option β) (k1 : Unit → Option β) (rec : El (.sl TsiSSi) × El (.fn 141 (.prod (.ptr TiSqsiiiiiip) .unit)) × El (.int .i64) × El (.int .i64) × Unit → Option β) (x : El (.sl TsiSSi) × El (.fn 141 (.prod (.ptr TiSqsiiiiiip) .unit)) × El (.int .i64) × El (.int .i64) × Unit) : Option β :=
  cond (decide (x.2.2.2.1 < x.2.2.1)) (obind (rdAt x.1 x.2.2.2.1) fun v1 => obind (impl_Mine_hasFans_1 F v1 x.2.1.1) fun r2 => cond r2.1 (k0 (x.2.2.2.1, ())) (rec (x.1, x.2.1, x.2.2.1, IntKind.i64.wrap (x.2.2.2.1 + (1 : Int)), ()))) (k1 (()))
def slices_IndexFunc_SFan_Fan_l0 (F : Nat) : LoopFn where
  n := 19
  sh := slices_IndexFunc_SFan_Fan_l0s
  outs := slices_IndexFunc_SFan_Fan_l0o
  es := [.ret, .exit 0]
  step := fun rec K x => slices_IndexFunc_SFan_Fan_l0_step F K.1 K.2.1 rec x
/-- slices.IndexFunc[[]loop.example/g01021/impl.Fan,loop.example/g01021/impl.Fan] -/
def slices_IndexFunc_SFan_Fan (F : Nat) (x0 : El (.sl TsiSSi)) (x1 : El (.fn 141 (.prod (.ptr TiSqsiiiiiip) .unit))) : Option (Outs [((.int .i64), .no)]) :=
  runP (slices_IndexFunc_SFan_Fan_l0_step F (fun y3 => some (y3.1, ())) (fun y3 => some ((-1 : Int), ()))) none F (x0, x1, (x0.length : Int), (0 : Int), ())
/-- slices.ContainsFunc[[]loop.example/g01021/impl.Fan,loop.example/g01021/impl.Fan] -/
def slices_ContainsFunc_SFan_Fan (F : Nat) (x0 : El (.sl TsiSSi)) (x1 : El (.fn 141 (.prod (.ptr TiSqsiiiiiip) .unit))) : Option (Outs [(.bool, .no)]) :=
  obind (slices_IndexFunc_SFan_Fan F x0 x1) fun r1 => some (decide (r1.1 ≥ (0 : Int)), ())
/-- (loop.example/g01021/impl.Mine).hasFans -/
def impl_Mine_hasFans (F : Nat) (x0 : El TiSqsiiiiiip) (x1 : El (.sl TsiSSi)) : Option (Outs [(.bool, .no)]) :=
  obind (slices_ContainsFunc_SFan_Fan F x1 (x0, ())) fun r1 => some (!r1.1, ())
/-- (loop.example/g01021/impl.Refuge).valid -/
def impl_Refuge_valid (F : Nat) (x0 : El Tsiii) : Option (Outs [(.bool, .no)]) :=
  obind (impl_IsName F x0.1) fun r1 => cond r1.1 (obind (impl_junctionOk F x0.2.1) fun r2 => cond r2.1 (obind (impl_within F x0.2.2.1 (1 : Int) (200 : Int)) fun r3 => cond r3.1 (obind (impl_within F x0.2.2.2.1 (0 : Int) (10000000 : Int)) fun r4 => some (r4.1, ())) (some (false, ()))) (some (false, ()))) (some (false, ()))
abbrev impl_ValidRefuges_l0s : List Sh := [.dead, .val (.sl Tsiii) .no, .box none TiSqsiiiiiip (.pr .no (.pr .no .no)), .dead, .dead, .dead, .dead, .dead, .dead, .dead, .dead, .dead, .dead, .dead, .dead, .val (.sl Tsiii) .no, .val (.int .i64) .no, .val (.int .i64) .no, .dead, .dead, .dead, .dead, .dead, .dead, .dead, .dead, .dead, .dead, .dead, .dead, .dead, .dead, .dead, .dead, .dead, .dead, .dead, .dead, .dead, .dead, .dead, .dead, .dead, .dead, .dead, .dead, .dead, .dead]
abbrev impl_ValidRefuges_l0o : List (Ex × List Sh) := [(.ret, [.dead, .dead, .dead, .dead, .val .bool .no, .dead, .dead, .dead, .dead, .dead, .dead, .dead, .dead, .dead, .dead, .dead, .dead, .dead, .dead, .dead, .dead, .dead, .dead, .dead, .dead, .dead, .dead, .dead, .dead, .dead, .dead, .dead, .dead, .dead, .dead, .dead, .dead, .dead, .dead, .dead, .dead, .dead, .dead, .dead, .dead, .dead, .dead, .dead]), (.exit 0, [.dead, .dead, .dead, .dead, .dead, .dead, .dead, .dead, .dead, .dead, .dead, .dead, .dead, .dead, .dead, .dead, .dead, .dead, .dead, .dead, .dead, .dead, .dead, .dead, .dead, .dead, .dead, .dead, .dead, .dead, .dead, .dead, .dead, .dead, .dead, .dead, .dead, .dead, .dead, .dead, .dead, .dead, .dead, .dead, .dead, .dead, .dead, .dead])]
def impl_ValidRefuges_l0_step {β : Type} (F : Nat) (k0 : El .bool × Unit → Option β) (k1 : Unit → Option β) (rec : El (.sl Tsiii) × El TiSqsiiiiiip × El (.sl Tsiii) × El (.int .i64) × El (.int .i64) × Unit → Option β) (x : El (.sl Tsiii) × El TiSqsiiiiiip × El (.sl Tsiii) × El (.int .i64) × El (.int .i64) × Unit) : Option β :=
  cond (decide (x.2.2.2.2.1 < x.2.2.2.1)) (obind (rdAt x.2.2.1 x.2.2.2.2.1) fun v2 => obind (impl_Refuge_valid F v2) fun r3 => cond (!r3.1) (k0 (false, ())) (obind (impl_Mine_hasJunction F x.2.1 v2.2.1) fun r4 => cond (!r4.1) (k0 (false, ())) (cond (decide (x.2.2.2.2.1 > (0 : Int))) (obind (rdAt x.1 (IntKind.i64.wrap (x.2.2.2.2.1 - (1 : Int)))) fun v5 => cond (Op.bytesLess v2.1.toList v5.1.toList || (v2.1.toList == v5.1.toList)) (k0 (false, ())) (rec (x.1, x.2.1, x.2.2.1, x.2.2.2.1, IntKind.i64.wrap (x.2.2.2.2.1 + (1 : Int)), ()))) (rec (x.1, x.2.1, x.2.2.1, x.2.2.2.1, IntKind.i64.wrap (x.2.2.2.2.1 + (1 : Int)), ()))))) (k1 (()))
def impl_ValidRefuges_l0 (F : Nat) : LoopFn where
  n := 48
  sh := impl_ValidRefuges_l0s
  outs := impl_ValidRefuges_l0o
  es := [.ret, .exit 0]
  step := fun rec K x => impl_ValidRefuges_l0_step F K.1 K.2.1 rec x
/-- loop.example/g01021/impl.ValidRefuges -/
def impl_ValidRefuges (F : Nat) (x0 : El TiSqsiiiiiip) (x1 : El (.sl Tsiii)) : Option (Outs [(.bool, .no)]) :=
  obind (impl_ValidMine F x0) fun r1 => cond (!r1.1) (some (false, ())) (cond (decide ((x1.length : Int) > (8 : Int))) (some (false, ())) (runP (impl_ValidRefuges_l0_step F (fun y6 => some (y6.1, ())) (fun y6 => some (true, ()))) none F (x1, x0, x1, (x1.length : Int), (0 : Int), ())))
/-- loop.example/g01021/impl.ValidSensor -/
def impl_ValidSensor (F : Nat) (x0 : El Tsiiii) : Option (Outs [(.bool, .no)]) :=
  obind (impl_IsName F x0.1) fun r1 => cond r1.1 (obind (impl_junctionOk F x0.2.1) fun r2 => cond r2.1 (obind (impl_within F x0.2.2.1 (0 : Int) (1000000 : Int)) fun r3 => cond r3.1 (obind (impl_within F x0.2.2.2.2.1 (0 : Int) x0.2.2.1) fun r4 => cond r4.1 (obind (impl_within F x0.2.2.2.1 (1 : Int) (60 : Int)) fun r5 => some (r5.1, ())) (some (false, ()))) (some (false, ()))) (some (false, ()))) (some (false, ()))
abbrev impl_ValidSensors_l0s : List Sh := [.val (.sl Tsiiii) .no, .dead, .dead, .dead, .dead, .dead, .dead, .dead, .val (.sl Tsiiii) .no, .val (.int .i64) .no, .val (.int .i64) .no, .dead, .dead, .dead, .dead, .dead, .dead, .dead, .dead, .dead, .dead, .dead, .dead, .dead, .dead, .dead, .dead, .dead, .dead, .dead, .dead, .dead, .dead, .dead]
abbrev impl_ValidSensors_l0o : List (Ex × List Sh) := [(.ret, [.dead, .dead, .val .bool .no, .dead, .dead, .dead, .dead, .dead, .dead, .dead, .dead, .dead, .dead, .dead, .dead, .dead, .dead, .dead, .dead, .dead, .dead, .dead, .dead, .dead, .dead, .dead, .dead, .dead, .dead, .dead, .dead, .dead, .dead, .dead]), (.exit 0, [.dead, .dead, .dead, .dead, .dead, .dead, .dead, .dead, .dead, .dead, .dead, .dead, .dead, .dead, .dead, .dead, .dead, .dead, .dead, .dead, .dead, .dead, .dead, .dead, .dead, .dead, .dead, .dead, .dead, .dead, .dead, .dead, .dead, .dead])]
def impl_ValidSensors_l0_step {β : Type} (F : Nat) (k0 : El .bool × Unit → Option β) (k1 : Unit → Option β) (rec : El (.sl Tsiiii) × El (.sl Tsiiii) × El (.int .i64) × El (.int .i64) × Unit → Option β) (x : El (.sl Tsiiii) × El (.sl Tsiiii) × El (.int .i64) × El (.int .i64) × Unit) : Option β :=
  cond (decide (x.2.2.2.1 < x.2.2.1)) (obind (rdAt x.2.1 x.2.2.2.1) fun v1 => obind (impl_ValidSensor F v1) fun r2 => cond (!r2.1) (k0 (false, ())) (cond (decide (x.2.2.2.1 > (0 : Int))) (obind (rdAt x.1 (IntKind.i64.wrap (x.2.2.2.1 - (1 : Int)))) fun v3 => cond (Op.bytesLess v1.1.toList v3.1.toList || (v1.1.toList == v3.1.toList)) (k0 (false, ())) (rec (x.1, x.2.1, x.2.2.1, IntKind.i64.wrap (x.2.2.2.1 + (1 : Int)), ()))) (rec (x.1, x.2.1, x.2.2.1, IntKind.i64.wrap (x.2.2.2.1 + (1 : Int)), ())))) (k1 (()))
def impl_ValidSensors_l0 (F : Nat) : LoopFn where
  n := 34
  sh := impl_ValidSensors_l0s
  outs := impl_ValidSensors_l0o
  es := [.ret, .exit 0]
  step := fun rec K x => impl_ValidSensors_l0_step F K.1 K.2.1 rec x
/-- loop.example/g01021/impl.ValidSensors -/
def impl_ValidSensors (F : Nat) (x0 : El (.sl Tsiiii)) : Option (Outs [(.bool, .no)]) :=
  cond (decide ((x0.length : Int) > (16 : Int))) (some (false, ())) (runP (impl_ValidSensors_l0_step F (fun y4 => some (y4.1, ())) (fun y4 => some (true, ()))) none F (x0, x0, (x0.length : Int), (0 : Int), ()))
/-- loop.example/g01021/impl.kindOk -/
def impl_kindOk (F : Nat) (x0 : El (.int .i64)) : Option (Outs [(.bool, .no)]) :=
  obind (impl_within F x0 (1 : Int) (4 : Int)) fun r1 => some (r1.1, ())
/-- (loop.example/g01021/impl.Permit).valid -/
def impl_Permit_valid (F : Nat) (x0 : El Tsiiii) : Option (Outs [(.bool, .no)]) :=
  obind (impl_IsName F x0.1) fun r1 => cond r1.1 (obind (impl_kindOk F x0.2.1) fun r2 => cond r2.1 (obind (impl_within F x0.2.2.1 (0 : Int) (23 : Int)) fun r3 => cond r3.1 (obind (impl_within F x0.2.2.2.2.1 (0 : Int) (100000 : Int)) fun r4 => cond r4.1 (obind (impl_within F x0.2.2.2.1 (0 : Int) (IntKind.i64.wrap (x0.2.2.2.2.1 - (1 : Int)))) fun r5 => some (r5.1, ())) (some (false, ()))) (some (false, ()))) (some (false, ()))) (some (false, ()))
abbrev impl_ValidPermits_l0s : List Sh := [.dead, .val (.sl Tsiiii) .no, .box none TiSqsiiiiiip (.pr .no (.pr .no .no)), .dead, .dead, .dead, .dead, .dead, .dead, .dead, .dead, .dead, .dead, .dead, .dead, .val (.sl Tsiiii) .no, .val (.int .i64) .no, .val (.int .i64) .no, .dead, .dead, .dead, .dead, .dead, .dead, .dead, .dead, .dead, .dead, .dead, .dead, .dead, .dead, .dead, .dead, .dead, .dead, .dead, .dead, .dead, .dead, .dead, .dead, .dead, .dead, .dead, .dead, .dead, .dead, .dead]
abbrev impl_ValidPermits_l0o : List (Ex × List Sh) := [(.ret, [.dead, .dead, .dead, .dead, .val .bool .no, .dead, .dead, .dead, .dead, .dead, .dead, .dead, .dead, .dead, .dead, .dead, .dead, .dead, .dead, .dead, .dead, .dead, .dead, .dead, .dead, .dead, .dead, .dead, .dead, .dead, .dead, .dead, .dead, .dead, .dead, .dead, .dead, .dead, .dead, .dead, .dead, .dead, .dead, .dead, .dead, .dead, .dead, .dead, .dead]), (.exit 0, [.dead, .dead, .dead, .dead, .dead, .dead, .dead, .dead, .dead, .dead, .dead, .dead, .dead, .dead, .dead, .dead, .dead, .dead, .dead, .dead, .dead, .dead, .dead, .dead, .dead, .dead, .dead, .dead, .dead, .dead, .dead, .dead, .dead, .dead, .dead, .dead, .dead, .dead, .dead, .dead, .dead, .dead, .dead, .dead, .dead, .dead, .dead, .dead, .dead])]
def impl_ValidPermits_l0_step {β : Type} (F : Nat) (k0 : El .bool × Unit → Option β) (k1 : Unit → Option β) (rec : El (.sl Tsiiii) × El TiSqsiiiiiip × El (.sl Tsiiii) × El (.int .i64) × El (.int .i64) × Unit → Option β) (x : El (.sl Tsiiii) × El TiSqsiiiiiip × El (.sl Tsiiii) × El (.int .i64) × El (.int .i64) × Unit) : Option β :=
  cond (decide (x.2.2.2.2.1 < x.2.2.2.1)) (obind (rdAt x.2.2.1 x.2.2.2.2.1) fun v2 => obind (impl_Permit_valid F v2) fun r3 => cond (!r3.1) (k0 (false, ())) (obind (impl_indexValid_Airway F x.2.1.2.1 v2.2.2.1) fun r4 => cond (!r4.1) (k0 (false, ())) (cond (decide (x.2.2.2.2.1 > (0 : Int))) (obind (rdAt x.1 (IntKind.i64.wrap (x.2.2.2.2.1 - (1 : Int)))) fun v5 => cond (Op.bytesLess v2.1.toList v5.1.toList || (v2.1.toList == v5.1.toList)) (k0 (false, ())) (rec (x.1, x.2.1, x.2.2.1, x.2.2.2.1, IntKind.i64.wrap (x.2.2.2.2.1 + (1 : Int)), ()))) (rec (x.1, x.2.1, x.2.2.1, x.2.2.2.1, IntKind.i64.wrap (x.2.2.2.2.1 + (1 : Int)), ()))))) (k1 (()))
def impl_ValidPermits_l0 (F : Nat) : LoopFn where
  n := 49
  sh := impl_ValidPermits_l0s
  outs := impl_ValidPermits_l0o
  es := [.ret, .exit 0]
  step := fun rec K x => impl_ValidPermits_l0_step F K.1 K.2.1 rec x
/-- loop.example/g01021/impl.ValidPermits -/
def impl_ValidPermits (F : Nat) (x0 : El TiSqsiiiiiip) (x1 : El (.sl Tsiiii)) : Option (Outs [(.bool, .no)]) :=
  obind (impl_ValidMine F x0) fun r1 => cond (!r1.1) (some (false, ())) (cond (decide ((x1.length : Int) > (16 : Int))) (some (false, ())) (runP (impl_ValidPermits_l0_step F (fun y6 => some (y6.1, ())) (fun y6 => some (true, ()))) none F (x1, x0, x1, (x1.length : Int), (0 : Int), ())))
/-- (loop.example/g01021/impl.Drill).valid -/
def impl_Drill_valid (F : Nat) (x0 : El Tisiii) : Option (Outs [(.bool, .no)]) :=
  obind (impl_within F x0.1 (0 : Int) (100000 : Int)) fun r1 => cond r1.1 (obind (impl_IsName F x0.2.1) fun r2 => cond r2.1 (obind (impl_within F x0.2.2.1 (1 : Int) (200 : Int)) fun r3 => cond r3.1 (obind (impl_within F x0.2.2.2.1 (0 : Int) (36000 : Int)) fun r4 => cond r4.1 (obind (impl_within F x0.2.2.2.2.1 (0 : Int) x0.2.2.1) fun r5 => some (r5.1, ())) (some (false, ()))) (some (false, ()))) (some (false, ()))) (some (false, ()))
/-- cmp.isNaN[int64] -/
def cmp_isNaN_int64 (F : Nat) (x0 : El (.int .i64)) : Option (Outs [(.bool, .no)]) :=
  some ((x0 != x0), ())
/-- cmp.Compare[int64] -/
def cmp_Compare_int64 (F : Nat) (x0 : El (.int .i64)) (x1 : El (.int .i64)) : Option (Outs [((.int .i64), .no)]) :=
  obind (cmp_isNaN_int64 F x0) fun r1 => obind (cmp_isNaN_int64 F x1) fun r2 => cond r1.1 (cond r2.1 (some ((0 : Int), ())) (some ((-1 : Int), ()))) (cond r2.1 (some ((1 : Int), ())) (cond (decide (x0 < x1)) (some ((-1 : Int), ())) (cond (decide (x0 > x1)) (some ((1 : Int), ())) (some ((0 : Int), ())))))
/-- cmp.isNaN[string] -/
def cmp_isNaN_string (F : Nat) (x0 : El .str) : Option (Outs [(.bool, .no)]) :=
  some (!(x0.toList == x0.toList), ())
/-- cmp.Compare[string] -/
def cmp_Compare_string (F : Nat) (x0 : El .str) (x1 : El .str) : Option (Outs [((.int .i64), .no)]) :=
  obind (cmp_isNaN_string F x0) fun r1 => obind (cmp_isNaN_string F x1) fun r2 => cond r1.1 (cond r2.1 (some ((0 : Int), ())) (some ((-1 : Int), ()))) (cond r2.1 (some ((1 : Int), ())) (cond (Op.bytesLess x0.toList x1.toList) (some ((-1 : Int), ())) (cond (!(Op.bytesLess x0.toList x1.toList || (x0.toList == x1.toList))) (some ((1 : Int), ())) (some ((0 : Int), ())))))
abbrev cmp_Or_int_l0s : List Sh := [.dead, .dead, .dead, .val (.int .i64) .no, .dead, .dead, .val (.sl (.int .i64)) .no, .val (.int .i64) .no, .val (.int .i64) .no, .dead, .dead, .dead, .dead, .dead, .dead, .dead, .dead, .dead]
abbrev cmp_Or_int_l0o : List (Ex × List Sh) := [(.ret, [.dead, .dead, .val (.int .i64) .no, .dead, .dead, .dead, .dead, .dead, .dead, .dead, .dead, .dead, .dead, .dead, .dead, .dead, .dead, .dead]), (.exit 0, [.dead, .dead, .dead, .val (.int .i64) .no, .dead, .dead, .dead, .dead, .dead, .dead, .dead, .dead, .dead, .dead, .dead, .dead, .dead, .dead])]
def cmp_Or_int_l0_step {β : Type} (F : Nat) (k0 : El (.int .i64) × Unit → Option β) (k1 : El (.int .i64) × Unit → Option β) (rec : El (.int .i64) × El (.sl (.int .i64)) × El (.int .i64) × El (.int .i64) × Unit → Option β) (x : El (.int .i64) × El (.sl (.int .i64)) × El (.int .i64) × El (.int .i64) × Unit) : Option β :=
  cond (decide (x.2.2.2.1 < x.2.2.1)) (obind (rdAt x.2.1 x.2.2.2.1) fun v1 => cond (v1 != x.1) (k0 (v1, ())) (rec (x.1, x.2.1, x.2.2.1, IntKind.i64.wrap (x.2.2.2.1 + (1 : Int)), ()))) (k1 (x.1, ()))
def cmp_Or_int_l0 (F : Nat) : LoopFn where
  n := 18
  sh := cmp_Or_int_l0s
  outs := cmp_Or_int_l0o
  es := [.ret, .exit 0]
  step := fun rec K x => cmp_Or_int_l0_step F K.1 K.2.1 rec x
/-- cmp.Or[int] -/
def cmp_Or_int (F : Nat) (x0 : El (.sl (.int .i64))) : Option (Outs [((.int .i64), .no)]) :=
  runP (cmp_Or_int_l0_step F (fun y2 => some (y2.1, ())) (fun y2 => some (y2.1, ()))) none F ((0 : Int), x0, (x0.length : Int), (0 : Int), ())
/-- loop.example/g01021/impl.compareDrills -/
def impl_compareDrills (F : Nat) (x0 : El Tisiii) (x1 : El Tisiii) : Option (Outs [((.int .i64), .no)]) :=
  obind (cmp_Compare_int64 F x0.1 x1.1) fun r1 => obind (cmp_Compare_string F x0.2.1 x1.2.1) fun r2 => obind (cmp_Or_int F ([r1.1, r2.1])) fun r3 => some (r3.1, ())
abbrev impl_ValidDrills_l0s : List Sh := [.val (.sl Tisiii) .no, .dead, .dead, .dead, .dead, .dead, .dead, .dead, .val (.sl Tisiii) .no, .val (.int .i64) .no, .val (.int .i64) .no, .dead, .dead, .dead, .dead, .dead, .dead, .dead, .dead, .dead, .dead, .dead, .dead, .dead, .dead, .dead, .dead, .dead, .dead, .dead, .dead, .dead, .dead]
abbrev impl_ValidDrills_l0o : List (Ex × List Sh) := [(.ret, [.dead, .dead, .val .bool .no, .dead, .dead, .dead, .dead, .dead, .dead, .dead, .dead, .dead, .dead, .dead, .dead, .dead, .dead, .dead, .dead, .dead, .dead, .dead, .dead, .dead, .dead, .dead, .dead, .dead, .dead, .dead, .dead, .dead, .dead]), (.exit 0, [.dead, .dead, .dead, .dead, .dead, .dead, .dead, .dead, .dead, .dead, .dead, .dead, .dead, .dead, .dead, .dead, .dead, .dead, .dead, .dead, .dead, .dead, .dead, .dead, .dead, .dead, .dead, .dead, .dead, .dead, .dead, .dead, .dead])]
def impl_ValidDrills_l0_step {β : Type} (F : Nat) (k0 : El .bool × Unit → Option β) (k1 : Unit → Option β) (rec : El (.sl Tisiii) × El (.sl Tisiii) × El (.int .i64) × El (.int .i64) × Unit → Option β) (x : El (.sl Tisiii) × El (.sl Tisiii) × El (.int .i64) × El (.int .i64) × Unit) : Option β :=
  cond (decide (x.2.2.2.1 < x.2.2.1)) (obind (rdAt x.2.1 x.2.2.2.1) fun v1 => obind (impl_Drill_valid F v1) fun r2 => cond (!r2.1) (k0 (false, ())) (cond (decide (x.2.2.2.1 > (0 : Int))) (obind (rdAt x.1 (IntKind.i64.wrap (x.2.2.2.1 - (1 : Int)))) fun v3 => obind (impl_compareDrills F v3 v1) fun r4 => cond (decide (r4.1 ≥ (0 : Int))) (k0 (false, ())) (rec (x.1, x.2.1, x.2.2.1, IntKind.i64.wrap (x.2.2.2.1 + (1 : Int)), ()))) (rec (x.1, x.2.1, x.2.2.1, IntKind.i64.wrap (x.2.2.2.1 + (1 : Int)), ())))) (k1 (()))
def impl_ValidDrills_l0 (F : Nat) : LoopFn where
  n := 33
  sh := impl_ValidDrills_l0s
  outs := impl_ValidDrills_l0o
  es := [.ret, .exit 0]
  step := fun rec K x => impl_ValidDrills_l0_step F K.1 K.2.1 rec x
/-- loop.example/g01021/impl.ValidDrills -/
def impl_ValidDrills (F : Nat) (x0 : El (.sl Tisiii)) : Option (Outs [(.bool, .no)]) :=
  cond (decide ((x0.length : Int) > (32 : Int))) (some (false, ())) (runP (impl_ValidDrills_l0_step F (fun y5 => some (y5.1, ())) (fun y5 => some (true, ()))) none F (x0, x0, (x0.length : Int), (0 : Int), ()))
/-- loop.example/g01021/impl.ValidDesk -/
def impl_ValidDesk (F : Nat) (x0 : El T5d55a700) : Option (Outs [(.bool, .no)]) :=
  obind (impl_ValidMine F x0.1) fun r1 => cond r1.1 (obind (impl_Mine_hasList F x0.1 x0.2.1 (1 : Int) (1000000 : Int)) fun r2 => cond r2.1 (obind (impl_Mine_hasFlows F x0.1 x0.2.2.1) fun r3 => cond r3.1 (obind (impl_ValidFans F x0.2.2.2.1) fun r4 => cond r4.1 (obind (impl_Mine_hasFans F x0.1 x0.2.2.2.1) fun r5 => cond r5.1 (obind (impl_ValidRefuges F x0.1 x0.2.2.2.2.1) fun r6 => cond r6.1 (obind (impl_ValidSensors F x0.2.2.2.2.2.1) fun r7 => cond r7.1 (obind (impl_ValidPermits F x0.1 x0.2.2.2.2.2.2.1) fun r8 => cond r8.1 (obind (impl_ValidDrills F x0.2.2.2.2.2.2.2.1) fun r9 => some (r9.1, ())) (some (false, ()))) (some (false, ()))) (some (false, ()))) (some (false, ()))) (some (false, ()))) (some (false, ()))) (some (false, ()))) (some (false, ()))
/-- loop.example/g01021/impl.Decimal -/
def impl_Decimal (F : Nat) (x0 : El (.int .i64)) : Option (Outs [(.str, .no)]) :=
  obind (libFormatInt x0 (10 : Int)) fun r1 => some (r1.1, ())
/-- loop.example/g01021/impl.DeskReport -/
def impl_DeskReport (F : Nat) (x0 : El T5d55a700) : Option (Outs [((.sl .str), (.own none .no)), ((.int .i64), .no)]) :=
  obind (impl_ValidDesk F x0) fun r1 => cond (!r1.1) (some ([], (1 : Int), ())) (obind (impl_Decimal F x0.1.1) fun r2 => guardB (decide ((⟨#[106, 117, 110, 99, 116, 105, 111, 110, 115, 32]⟩ : ByteArray).size + r2.1.size ≤ 9223372036854775807)) (obind (impl_Decimal F (x0.1.2.1.length : Int)) fun r3 => guardB (decide ((⟨#[97, 105, 114, 119, 97, 121, 115, 32]⟩ : ByteArray).size + r3.1.size ≤ 9223372036854775807)) (obind (impl_Decimal F (x0.2.2.2.1.length : Int)) fun r4 => guardB (decide ((⟨#[102, 97, 110, 115, 32]⟩ : ByteArray).size + r4.1.size ≤ 9223372036854775807)) (obind (impl_Decimal F (x0.2.2.2.2.1.length : Int)) fun r5 => guardB (decide ((⟨#[114, 101, 102, 117, 103, 101, 115, 32]⟩ : ByteArray).size + r5.1.size ≤ 9223372036854775807)) (obind (impl_Decimal F (x0.2.2.2.2.2.1.length : Int)) fun r6 => guardB (decide ((⟨#[115, 101, 110, 115, 111, 114, 115, 32]⟩ : ByteArray).size + r6.1.size ≤ 9223372036854775807)) (obind (impl_Decimal F (x0.2.2.2.2.2.2.1.length : Int)) fun r7 => guardB (decide ((⟨#[112, 101, 114, 109, 105, 116, 115, 32]⟩ : ByteArray).size + r7.1.size ≤ 9223372036854775807)) (obind (impl_Decimal F (x0.2.2.2.2.2.2.2.1.length : Int)) fun r8 => guardB (decide ((⟨#[100, 114, 105, 108, 108, 115, 32]⟩ : ByteArray).size + r8.1.size ≤ 9223372036854775807)) (some ([(⟨#[106, 117, 110, 99, 116, 105, 111, 110, 115, 32]⟩ : ByteArray) ++ r2.1, (⟨#[97, 105, 114, 119, 97, 121, 115, 32]⟩ : ByteArray) ++ r3.1, (⟨#[102, 97, 110, 115, 32]⟩ : ByteArray) ++ r4.1, (⟨#[114, 101, 102, 117, 103, 101, 115, 32]⟩ : ByteArray) ++ r5.1, (⟨#[115, 101, 110, 115, 111, 114, 115, 32]⟩ : ByteArray) ++ r6.1, (⟨#[112, 101, 114, 109, 105, 116, 115, 32]⟩ : ByteArray) ++ r7.1, (⟨#[100, 114, 105, 108, 108, 115, 32]⟩ : ByteArray) ++ r8.1], (0 : Int), ())))))))))
abbrev laws_eqStringS_l0s : List Sh := [.val (.sl .str) .no, .val (.sl .str) .no, .dead, .dead, .dead, .val (.int .i64) .no, .dead, .dead, .dead, .dead, .dead, .dead, .dead, .dead, .dead, .dead, .dead, .dead, .dead, .dead, .dead, .dead, .dead, .dead, .dead, .dead]
abbrev laws_eqStringS_l0o : List (Ex × List Sh) := [(.ret, [.dead, .dead, .dead, .dead, .val .bool .no, .dead, .dead, .dead, .dead, .dead, .dead, .dead, .dead, .dead, .dead, .dead, .dead, .dead, .dead, .dead, .dead, .dead, .dead, .dead, .dead, .dead]), (.exit 0, [.dead, .dead, .dead, .dead, .dead, .dead, .dead, .dead, .dead, .dead, .dead, .dead, .dead, .dead, .dead, .dead, .dead, .dead, .dead, .dead, .dead, .dead, .dead, .dead, .dead, .dead])]
def laws_eqStringS_l0_step {β : Type} (F : Nat) (k0 : El .bool × Unit → Option β) (k1 : Unit → Option β) (rec : El (.sl .str) × El (.sl .str) × El (.int .i64) × Unit → Option β) (x : El (.sl .str) × El (.sl .str) × El (.int .i64) × Unit) : Option β :=
  cond (decide (x.2.2.1 < (x.1.length : Int))) (obind (rdAt x.1 x.2.2.1) fun v1 => obind (rdAt x.2.1 x.2.2.1) fun v2 => cond (!(v1.toList == v2.toList)) (k0 (false, ())) (rec (x.1, x.2.1, IntKind.i64.wrap (x.2.2.1 + (1 : Int)), ()))) (k1 (()))
def laws_eqStringS_l0 (F : Nat) : LoopFn where
  n := 26
  sh := laws_eqStringS_l0s
  outs := laws_eqStringS_l0o
  es := [.ret, .exit 0]
  step := fun rec K x => laws_eqStringS_l0_step F K.1 K.2.1 rec x
/-- loop.example/g01021/laws.eqStringS -/
def laws_eqStringS (F : Nat) (x0 : El (.sl .str)) (x1 : El (.sl .str)) : Option (Outs [(.bool, .no)]) :=
  cond ((x0.length : Int) != (x1.length : Int)) (some (false, ())) (runP (laws_eqStringS_l0_step F (fun y3 => some (y3.1, ())) (fun y3 => some (true, ()))) none F (x0, x1, (0 : Int), ()))
/-- loop.example/g01021/laws.eqAirway -/
def laws_eqAirway (F : Nat) (x0 : El Tsiiiiii) (x1 : El Tsiiiiii) : Option (Outs [(.bool, .no)]) :=
  cond (!(x0.1.toList == x1.1.toList)) (some (false, ())) (cond (x0.2.1 != x1.2.1) (some (false, ())) (cond (x0.2.2.1 != x1.2.2.1) (some (false, ())) (cond (x0.2.2.2.1 != x1.2.2.2.1) (some (false, ())) (cond (x0.2.2.2.2.1 != x1.2.2.2.2.1) (some (false, ())) (cond (x0.2.2.2.2.2.1 != x1.2.2.2.2.2.1) (some (false, ())) (cond (x0.2.2.2.2.2.2.1 != x1.2.2.2.2.2.2.1) (some (false, ())) (some (true, ()))))))))
abbrev laws_eqAirwayS_l0s : List Sh := [.val (.sl Tsiiiiii) .no, .val (.sl Tsiiiiii) .no, .dead, .dead, .dead, .val (.int .i64) .no, .dead, .dead, .dead, .dead, .dead, .dead, .dead, .dead, .dead, .dead, .dead, .dead, .dead, .dead, .dead, .dead, .dead, .dead, .dead, .dead, .dead]
abbrev laws_eqAirwayS_l0o : List (Ex × List Sh) := [(.ret, [.dead, .dead, .dead, .dead, .val .bool .no, .dead, .dead, .dead, .dead, .dead, .dead, .dead, .dead, .dead, .dead, .dead, .dead, .dead, .dead, .dead, .dead, .dead, .dead, .dead, .dead, .dead, .dead]), (.exit 0, [.dead, .dead, .dead, .dead, .dead, .dead, .dead, .dead, .dead, .dead, .dead, .dead, .dead, .dead, .dead, .dead, .dead, .dead, .dead, .dead, .dead, .dead, .dead, .dead, .dead, .dead, .dead])]
def laws_eqAirwayS_l0_step {β : Type} (F : Nat) (k0 : El .bool × Unit → Option β) (k1 : Unit → Option β) (rec : El (.sl Tsiiiiii) × El (.sl Tsiiiiii) × El (.int .i64) × Unit → Option β) (x : El (.sl Tsiiiiii) × El (.sl Tsiiiiii) × El (.int .i64) × Unit) : Option β :=
  cond (decide (x.2.2.1 < (x.1.length : Int))) (obind (rdAt x.1 x.2.2.1) fun v1 => obind (rdAt x.2.1 x.2.2.1) fun v2 => obind (laws_eqAirway F v1 v2) fun r3 => cond (!r3.1) (k0 (false, ())) (rec (x.1, x.2.1, IntKind.i64.wrap (x.2.2.1 + (1 : Int)), ()))) (k1 (()))
def laws_eqAirwayS_l0 (F : Nat) : LoopFn where
  n := 27
  sh := laws_eqAirwayS_l0s
  outs := laws_eqAirwayS_l0o
  es := [.ret, .exit 0]
  step := fun rec K x => laws_eqAirwayS_l0_step F K.1 K.2.1 rec x
/-- loop.example/g01021/laws.eqAirwayS -/
def laws_eqAirwayS (F : Nat) (x0 : El (.sl Tsiiiiii)) (x1 : El (.sl Tsiiiiii)) : Option (Outs [(.bool, .no)]) :=
  cond ((x0.length : Int) != (x1.length : Int)) (some (false, ())) (runP (laws_eqAirwayS_l0_step F (fun y4 => some (y4.1, ())) (fun y4 => some (true, ()))) none F (x0, x1, (0 : Int), ()))
/-- loop.example/g01021/laws.eqMine -/
def laws_eqMine (F : Nat) (x0 : El TiSqsiiiiiip) (x1 : El TiSqsiiiiiip) : Option (Outs [(.bool, .no)]) :=
  cond (x0.1 != x1.1) (some (false, ())) (obind (laws_eqAirwayS F x0.2.1 x1.2.1) fun r1 => cond (!r1.1) (some (false, ())) (some (true, ())))
abbrev laws_eqInt64S_l0s : List Sh := [.val (.sl (.int .i64)) .no, .val (.sl (.int .i64)) .no, .dead, .dead, .dead, .val (.int .i64) .no, .dead, .dead, .dead, .dead, .dead, .dead, .dead, .dead, .dead, .dead, .dead, .dead, .dead, .dead, .dead, .dead, .dead, .dead, .dead, .dead]
abbrev laws_eqInt64S_l0o : List (Ex × List Sh) := [(.ret, [.dead, .dead, .dead, .dead, .val .bool .no, .dead, .dead, .dead, .dead, .dead, .dead, .dead, .dead, .dead, .dead, .dead, .dead, .dead, .dead, .dead, .dead, .dead, .dead, .dead, .dead, .dead]), (.exit 0, [.dead, .dead, .dead, .dead, .dead, .dead, .dead, .dead, .dead, .dead, .dead, .dead, .dead, .dead, .dead, .dead, .dead, .dead, .dead, .dead, .dead, .dead, .dead, .dead, .dead, .dead])]
def laws_eqInt64S_l0_step {β : Type} (F : Nat) (k0 : El .bool × Unit → Option β) (k1 : Unit → Option β) (rec : El (.sl (.int .i64)) × El (.sl (.int .i64)) × El (.int .i64) × Unit → Option β) (x : El (.sl (.int .i64)) × El (.sl (.int .i64)) × El (.int .i64) × Unit) : Option β :=
  cond (decide (x.2.2.1 < (x.1.length : Int))) (obind (rdAt x.1 x.2.2.1) fun v1 => obind (rdAt x.2.1 x.2.2.1) fun v2 => cond (v1 != v2) (k0 (false, ())) (rec (x.1, x.2.1, IntKind.i64.wrap (x.2.2.1 + (1 : Int)), ()))) (k1 (()))
def laws_eqInt64S_l0 (F : Nat) : LoopFn where
  n := 26
  sh := laws_eqInt64S_l0s
  outs := laws_eqInt64S_l0o
  es := [.ret, .exit 0]
  step := fun rec K x => laws_eqInt64S_l0_step F K.1 K.2.1 rec x
/-- loop.example/g01021/laws.eqInt64S -/
def laws_eqInt64S (F : Nat) (x0 : El (.sl (.int .i64))) (x1 : El (.sl (.int .i64))) : Option (Outs [(.bool, .no)]) :=
  cond ((x0.length : Int) != (x1.length : Int)) (some (false, ())) (runP (laws_eqInt64S_l0_step F (fun y3 => some (y3.1, ())) (fun y3 => some (true, ()))) none F (x0, x1, (0 : Int), ()))
abbrev laws_eqInt64SS_l0s : List Sh := [.val (.sl (.sl (.int .i64))) .no, .val (.sl (.sl (.int .i64))) .no, .dead, .dead, .dead, .val (.int .i64) .no, .dead, .dead, .dead, .dead, .dead, .dead, .dead, .dead, .dead, .dead, .dead, .dead, .dead, .dead, .dead, .dead, .dead, .dead, .dead, .dead, .dead]
abbrev laws_eqInt64SS_l0o : List (Ex × List Sh) := [(.ret, [.dead, .dead, .dead, .dead, .val .bool .no, .dead, .dead, .dead, .dead, .dead, .dead, .dead, .dead, .dead, .dead, .dead, .dead, .dead, .dead, .dead, .dead, .dead, .dead, .dead, .dead, .dead, .dead]), (.exit 0, [.dead, .dead, .dead, .dead, .dead, .dead, .dead, .dead, .dead, .dead, .dead, .dead, .dead, .dead, .dead, .dead, .dead, .dead, .dead, .dead, .dead, .dead, .dead, .dead, .dead, .dead, .dead])]
def laws_eqInt64SS_l0_step {β : Type} (F : Nat) (k0 : El .bool × Unit → Option β) (k1 : Unit → Option β) (rec : El (.sl (.sl (.int .i64))) × El (.sl (.sl (.int .i64))) × El (.int .i64) × Unit → Option β) (x : El (.sl (.sl (.int .i64))) × El (.sl (.sl (.int .i64))) × El (.int .i64) × Unit) : Option β :=
  cond (decide (x.2.2.1 < (x.1.length : Int))) (obind (rdAt x.1 x.2.2.1) fun v1 => obind (rdAt x.2.1 x.2.2.1) fun v2 => obind (laws_eqInt64S F v1 v2) fun r3 => cond (!r3.1) (k0 (false, ())) (rec (x.1, x.2.1, IntKind.i64.wrap (x.2.2.1 + (1 : Int)), ()))) (k1 (()))
def laws_eqInt64SS_l0 (F : Nat) : LoopFn where
  n := 27
  sh := laws_eqInt64SS_l0s
  outs := laws_eqInt64SS_l0o
  es := [.ret, .exit 0]
  step := fun rec K x => laws_eqInt64SS_l0_step F K.1 K.2.1 rec x
/-- loop.example/g01021/laws.eqInt64SS -/
def laws_eqInt64SS (F : Nat) (x0 : El (.sl (.sl (.int .i64)))) (x1 : El (.sl (.sl (.int .i64)))) : Option (Outs [(.bool, .no)]) :=
  cond ((x0.length : Int) != (x1.length : Int)) (some (false, ())) (runP (laws_eqInt64SS_l0_step F (fun y4 => some (y4.1, ())) (fun y4 => some (true, ()))) none F (x0, x1, (0 : Int), ()))
/-- loop.example/g01021/laws.eqFan -/
def laws_eqFan (F : Nat) (x0 : El TsiSSi) (x1 : El TsiSSi) : Option (Outs [(.bool, .no)]) :=
  cond (!(x0.1.toList == x1.1.toList)) (some (false, ())) (cond (x0.2.1 != x1.2.1) (some (false, ())) (obind (laws_eqInt64SS F x0.2.2.1 x1.2.2.1) fun r1 => cond (!r1.1) (some (false, ())) (some (true, ()))))
abbrev laws_eqFanS_l0s : List Sh := [.val (.sl TsiSSi) .no, .val (.sl TsiSSi) .no, .dead, .dead, .dead, .val (.int .i64) .no, .dead, .dead, .dead, .dead, .dead, .dead, .dead, .dead, .dead, .dead, .dead, .dead, .dead, .dead, .dead, .dead, .dead, .dead, .dead, .dead, .dead]
abbrev laws_eqFanS_l0o : List (Ex × List Sh) := [(.ret, [.dead, .dead, .dead, .dead, .val .bool .no, .dead, .dead, .dead, .dead, .dead, .dead, .dead, .dead, .dead, .dead, .dead, .dead, .dead, .dead, .dead, .dead, .dead, .dead, .dead, .dead, .dead, .dead]), (.exit 0, [.dead, .dead, .dead, .dead, .dead, .dead, .dead, .dead, .dead, .dead, .dead, .dead, .dead, .dead, .dead, .dead, .dead, .dead, .dead, .dead, .dead, .dead, .dead, .dead, .dead, .dead, .dead])]
def laws_eqFanS_l0_step {β : Type} (F : Nat) (k0 : El .bool × Unit → Option β) (k1 : Unit → Option β) (rec : El (.sl TsiSSi) × El (.sl TsiSSi) × El (.int .i64) × Unit → Option β) (x : El (.sl TsiSSi) × El (.sl TsiSSi) × El (.int .i64) × Unit) : Option β :=
  cond (decide (x.2.2.1 < (x.1.length : Int))) (obind (rdAt x.1 x.2.2.1) fun v1 => obind (rdAt x.2.1 x.2.2.1) fun v2 => obind (laws_eqFan F v1 v2) fun r3 => cond (!r3.1) (k0 (false, ())) (rec (x.1, x.2.1, IntKind.i64.wrap (x.2.2.1 + (1 : Int)), ()))) (k1 (()))
def laws_eqFanS_l0 (F : Nat) : LoopFn where
  n := 27
  sh := laws_eqFanS_l0s
  outs := laws_eqFanS_l0o
  es := [.ret, .exit 0]
  step := fun rec K x => laws_eqFanS_l0_step F K.1 K.2.1 rec x
/-- loop.example/g01021/laws.eqFanS -/
def laws_eqFanS (F : Nat) (x0 : El (.sl TsiSSi)) (x1 : El (.sl TsiSSi)) : Option (Outs [(.bool, .no)]) :=
  cond ((x0.length : Int) != (x1.length : Int)) (some (false, ())) (runP (laws_eqFanS_l0_step F (fun y4 => some (y4.1, ())) (fun y4 => some (true, ()))) none F (x0, x1, (0 : Int), ()))
/-- loop.example/g01021/laws.eqRefuge -/
def laws_eqRefuge (F : Nat) (x0 : El Tsiii) (x1 : El Tsiii) : Option (Outs [(.bool, .no)]) :=
  cond (!(x0.1.toList == x1.1.toList)) (some (false, ())) (cond (x0.2.1 != x1.2.1) (some (false, ())) (cond (x0.2.2.1 != x1.2.2.1) (some (false, ())) (cond (x0.2.2.2.1 != x1.2.2.2.1) (some (false, ())) (some (true, ())))))
abbrev laws_eqRefugeS_l0s : List Sh := [.val (.sl Tsiii) .no, .val (.sl Tsiii) .no, .dead, .dead, .dead, .val (.int .i64) .no, .dead, .dead, .dead, .dead, .dead, .dead, .dead, .dead, .dead, .dead, .dead, .dead, .dead, .dead, .dead, .dead, .dead, .dead, .dead, .dead, .dead]
abbrev laws_eqRefugeS_l0o : List (Ex × List Sh) := [(.ret, [.dead, .dead, .dead, .dead, .val .bool .no, .dead, .dead, .dead, .dead, .dead, .dead, .dead, .dead, .dead, .dead, .dead, .dead, .dead, .dead, .dead, .dead, .dead, .dead, .dead, .dead, .dead, .dead]), (.exit 0, [.dead, .dead, .dead, .dead, .dead, .dead, .dead, .dead, .dead, .dead, .dead, .dead, .dead, .dead, .dead, .dead, .dead, .dead, .dead, .dead, .dead, .dead, .dead, .dead, .dead, .dead, .dead])]
def laws_eqRefugeS_l0_step {β : Type} (F : Nat) (k0 : El .bool × Unit → Option β) (k1 : Unit → Option β) (rec : El (.sl Tsiii) × El (.sl Tsiii) × El (.int .i64) × Unit → Option β) (x : El (.sl Tsiii) × El (.sl Tsiii) × El (.int .i64) × Unit) : Option β :=
  cond (decide (x.2.2.1 < (x.1.length : Int))) (obind (rdAt x.1 x.2.2.1) fun v1 => obind (rdAt x.2.1 x.2.2.1) fun v2 => obind (laws_eqRefuge F v1 v2) fun r3 => cond (!r3.1) (k0 (false, ())) (rec (x.1, x.2.1, IntKind.i64.wrap (x.2.2.1 + (1 : Int)), ()))) (k1 (()))
def laws_eqRefugeS_l0 (F : Nat) : LoopFn where
  n := 27
  sh := laws_eqRefugeS_l0s
  outs := laws_eqRefugeS_l0o
  es := [.ret, .exit 0]
  step := fun rec K x => laws_eqRefugeS_l0_step F K.1 K.2.1 rec x
/-- loop.example/g01021/laws.eqRefugeS -/
def laws_eqRefugeS (F : Nat) (x0 : El (.sl Tsiii)) (x1 : El (.sl Tsiii)) : Option (Outs [(.bool, .no)]) :=
  cond ((x0.length : Int) != (x1.length : Int)) (some (false, ())) (runP (laws_eqRefugeS_l0_step F (fun y4 => some (y4.1, ())) (fun y4 => some (true, ()))) none F (x0, x1, (0 : Int), ()))
/-- loop.example/g01021/laws.eqSensor -/
def laws_eqSensor (F : Nat) (x0 : El Tsiiii) (x1 : El Tsiiii) : Option (Outs [(.bool, .no)]) :=
  cond (!(x0.1.toList == x1.1.toList)) (some (false, ())) (cond (x0.2.1 != x1.2.1) (some (false, ())) (cond (x0.2.2.1 != x1.2.2.1) (some (false, ())) (cond (x0.2.2.2.1 != x1.2.2.2.1) (some (false, ())) (cond (x0.2.2.2.2.1 != x1.2.2.2.2.1) (some (false, ())) (some (true, ()))))))
abbrev laws_eqSensorS_l0s : List Sh := [.val (.sl Tsiiii) .no, .val (.sl Tsiiii) .no, .dead, .dead, .dead, .val (.int .i64) .no, .dead, .dead, .dead, .dead, .dead, .dead, .dead, .dead, .dead, .dead, .dead, .dead, .dead, .dead, .dead, .dead, .dead, .dead, .dead, .dead, .dead]
abbrev laws_eqSensorS_l0o : List (Ex × List Sh) := [(.ret, [.dead, .dead, .dead, .dead, .val .bool .no, .dead, .dead, .dead, .dead, .dead, .dead, .dead, .dead, .dead, .dead, .dead, .dead, .dead, .dead, .dead, .dead, .dead, .dead, .dead, .dead, .dead, .dead]), (.exit 0, [.dead, .dead, .dead, .dead, .dead, .dead, .dead, .dead, .dead, .dead, .dead, .dead, .dead, .dead, .dead, .dead, .dead, .dead, .dead, .dead, .dead, .dead, .dead, .dead, .dead, .dead, .dead])]
def laws_eqSensorS_l0_step {β : Type} (F : Nat) (k0 : El .bool × Unit → Option β) (k1 : Unit → Option β) (rec : El (.sl Tsiiii) × El (.sl Tsiiii) × El (.int .i64) × Unit → Option β) (x : El (.sl Tsiiii) × El (.sl Tsiiii) × El (.int .i64) × Unit) : Option β :=
  cond (decide (x.2.2.1 < (x.1.length : Int))) (obind (rdAt x.1 x.2.2.1) fun v1 => obind (rdAt x.2.1 x.2.2.1) fun v2 => obind (laws_eqSensor F v1 v2) fun r3 => cond (!r3.1) (k0 (false, ())) (rec (x.1, x.2.1, IntKind.i64.wrap (x.2.2.1 + (1 : Int)), ()))) (k1 (()))
def laws_eqSensorS_l0 (F : Nat) : LoopFn where
  n := 27
  sh := laws_eqSensorS_l0s
  outs := laws_eqSensorS_l0o
  es := [.ret, .exit 0]
  step := fun rec K x => laws_eqSensorS_l0_step F K.1 K.2.1 rec x
/-- loop.example/g01021/laws.eqSensorS -/
def laws_eqSensorS (F : Nat) (x0 : El (.sl Tsiiii)) (x1 : El (.sl Tsiiii)) : Option (Outs [(.bool, .no)]) :=
  cond ((x0.length : Int) != (x1.length : Int)) (some (false, ())) (runP (laws_eqSensorS_l0_step F (fun y4 => some (y4.1, ())) (fun y4 => some (true, ()))) none F (x0, x1, (0 : Int), ()))
/-- loop.example/g01021/laws.eqPermit -/
def laws_eqPermit (F : Nat) (x0 : El Tsiiii) (x1 : El Tsiiii) : Option (Outs [(.bool, .no)]) :=
  cond (!(x0.1.toList == x1.1.toList)) (some (false, ())) (cond (x0.2.1 != x1.2.1) (some (false, ())) (cond (x0.2.2.1 != x1.2.2.1) (some (false, ())) (cond (x0.2.2.2.1 != x1.2.2.2.1) (some (false, ())) (cond (x0.2.2.2.2.1 != x1.2.2.2.2.1) (some (false, ())) (some (true, ()))))))
abbrev laws_eqPermitS_l0s : List Sh := [.val (.sl Tsiiii) .no, .val (.sl Tsiiii) .no, .dead, .dead, .dead, .val (.int .i64) .no, .dead, .dead, .dead, .dead, .dead, .dead, .dead, .dead, .dead, .dead, .dead, .dead, .dead, .dead, .dead, .dead, .dead, .dead, .dead, .dead, .dead]
abbrev laws_eqPermitS_l0o : List (Ex × List Sh) := [(.ret, [.dead, .dead, .dead, .dead, .val .bool .no, .dead, .dead, .dead, .dead, .dead, .dead, .dead, .dead, .dead, .dead, .dead, .dead, .dead, .dead, .dead, .dead, .dead, .dead, .dead, .dead, .dead, .dead]), (.exit 0, [.dead, .dead, .dead, .dead, .dead, .dead, .dead, .dead, .dead, .dead, .dead, .dead, .dead, .dead, .dead, .dead, .dead, .dead, .dead, .dead, .dead, .dead, .dead, .dead, .dead, .dead, .dead])]
def laws_eqPermitS_l0_step {β : Type} (F : Nat) (k0 : El .bool × Unit → Option β) (k1 : Unit → Option β) (rec : El (.sl Tsiiii) × El (.sl Tsiiii) × El (.int .i64) × Unit → Option β) (x : El (.sl Tsiiii) × El (.sl Tsiiii) × El (.int .i64) × Unit) : Option β :=
  cond (decide (x.2.2.1 < (x.1.length : Int))) (obind (rdAt x.1 x.2.2.1) fun v1 => obind (rdAt x.2.1 x.2.2.1) fun v2 => obind (laws_eqPermit F v1 v2) fun r3 => cond (!r3.1) (k0 (false, ())) (rec (x.1, x.2.1, IntKind.i64.wrap (x.2.2.1 + (1 : Int)), ()))) (k1 (()))
def laws_eqPermitS_l0 (F : Nat) : LoopFn where
  n := 27
  sh := laws_eqPermitS_l0s
  outs := laws_eqPermitS_l0o
  es := [.ret, .exit 0]
  step := fun rec K x => laws_eqPermitS_l0_step F K.1 K.2.1 rec x
/-- loop.example/g01021/laws.eqPermitS -/
def laws_eqPermitS (F : Nat) (x0 : El (.sl Tsiiii)) (x1 : El (.sl Tsiiii)) : Option (Outs [(.bool, .no)]) :=
  cond ((x0.length : Int) != (x1.length : Int)) (some (false, ())) (runP (laws_eqPermitS_l0_step F (fun y4 => some (y4.1, ())) (fun y4 => some (true, ()))) none F (x0, x1, (0 : Int), ()))
/-- loop.example/g01021/laws.eqDrill -/
def laws_eqDrill (F : Nat) (x0 : El Tisiii) (x1 : El Tisiii) : Option (Outs [(.bool, .no)]) :=
  cond (x0.1 != x1.1) (some (false, ())) (cond (!(x0.2.1.toList == x1.2.1.toList)) (some (false, ())) (cond (x0.2.2.1 != x1.2.2.1) (some (false, ())) (cond (x0.2.2.2.1 != x1.2.2.2.1) (some (false, ())) (cond (x0.2.2.2.2.1 != x1.2.2.2.2.1) (some (false, ())) (some (true, ()))))))
abbrev laws_eqDrillS_l0s : List Sh := [.val (.sl Tisiii) .no, .val (.sl Tisiii) .no, .dead, .dead, .dead, .val (.int .i64) .no, .dead, .dead, .dead, .dead, .dead, .dead, .dead, .dead, .dead, .dead, .dead, .dead, .dead, .dead, .dead, .dead, .dead, .dead, .dead, .dead, .dead]
abbrev laws_eqDrillS_l0o : List (Ex × List Sh) := [(.ret, [.dead, .dead, .dead, .dead, .val .bool .no, .dead, .dead, .dead, .dead, .dead, .dead, .dead, .dead, .dead, .dead, .dead, .dead, .dead, .dead, .dead, .dead, .dead, .dead, .dead, .dead, .dead, .dead]), (.exit 0, [.dead, .dead, .dead, .dead, .dead, .dead, .dead, .dead, .dead, .dead, .dead, .dead, .dead, .dead, .dead, .dead, .dead, .dead, .dead, .dead, .dead, .dead, .dead, .dead, .dead, .dead, .dead])]
def laws_eqDrillS_l0_step {β : Type} (F : Nat) (k0 : El .bool × Unit → Option β) (k1 : Unit → Option β) (rec : El (.sl Tisiii) × El (.sl Tisiii) × El (.int .i64) × Unit → Option β) (x : El (.sl Tisiii) × El (.sl Tisiii) × El (.int .i64) × Unit) : Option β :=
  cond (decide (x.2.2.1 < (x.1.length : Int))) (obind (rdAt x.1 x.2.2.1) fun v1 => obind (rdAt x.2.1 x.2.2.1) fun v2 => obind (laws_eqDrill F v1 v2) fun r3 => cond (!r3.1) (k0 (false, ())) (rec (x.1, x.2.1, IntKind.i64.wrap (x.2.2.1 + (1 : Int)), ()))) (k1 (()))
def laws_eqDrillS_l0 (F : Nat) : LoopFn where
  n := 27
  sh := laws_eqDrillS_l0s
  outs := laws_eqDrillS_l0o
  es := [.ret, .exit 0]
  step := fun rec K x => laws_eqDrillS_l0_step F K.1 K.2.1 rec x
/-- loop.example/g01021/laws.eqDrillS -/
def laws_eqDrillS (F : Nat) (x0 : El (.sl Tisiii)) (x1 : El (.sl Tisiii)) : Option (Outs [(.bool, .no)]) :=
  cond ((x0.length : Int) != (x1.length : Int)) (some (false, ())) (runP (laws_eqDrillS_l0_step F (fun y4 => some (y4.1, ())) (fun y4 => some (true, ()))) none F (x0, x1, (0 : Int), ()))
/-- loop.example/g01021/laws.eqDesk -/
def laws_eqDesk (F : Nat) (x0 : El T5d55a700) (x1 : El T5d55a700) : Option (Outs [(.bool, .no)]) :=
  obind (laws_eqMine F x0.1 x1.1) fun r1 => cond (!r1.1) (some (false, ())) (obind (laws_eqInt64S F x0.2.1 x1.2.1) fun r2 => cond (!r2.1) (some (false, ())) (obind (laws_eqInt64S F x0.2.2.1 x1.2.2.1) fun r3 => cond (!r3.1) (some (false, ())) (obind (laws_eqFanS F x0.2.2.2.1 x1.2.2.2.1) fun r4 => cond (!r4.1) (some (false, ())) (obind (laws_eqRefugeS F x0.2.2.2.2.1 x1.2.2.2.2.1) fun r5 => cond (!r5.1) (some (false, ())) (obind (laws_eqSensorS F x0.2.2.2.2.2.1 x1.2.2.2.2.2.1) fun r6 => cond (!r6.1) (some (false, ())) (obind (laws_eqPermitS F x0.2.2.2.2.2.2.1 x1.2.2.2.2.2.2.1) fun r7 => cond (!r7.1) (some (false, ())) (obind (laws_eqDrillS F x0.2.2.2.2.2.2.2.1 x1.2.2.2.2.2.2.2.1) fun r8 => cond (!r8.1) (some (false, ())) (some (true, ())))))))))
abbrev laws_markText_l0s : List Sh := [.val (.int .i64) .no, .dead, .dead, .val .str .no, .dead, .dead, .dead, .dead, .dead, .dead, .dead, .dead, .dead, .dead, .dead, .dead, .dead, .dead, .dead, .dead]
abbrev laws_markText_l0o : List (Ex × List Sh) := [(.exit 0, [.dead, .dead, .dead, .val .str .no, .dead, .dead, .dead, .dead, .dead, .dead, .dead, .dead, .dead, .dead, .dead, .dead, .dead, .dead, .dead, .dead])]
def laws_markText_l0_step {β : Type} (F : Nat) (k0 : El .str × Unit → Option β) (rec : El (.int .i64) × El .str × Unit → Option β) (x : El (.int .i64) × El .str × Unit) : Option β :=
  cond (decide (x.1 > (0 : Int))) (guardB (decide ((bytesOf ([IntKind.u8.wrap (IntKind.i64.wrap ((48 : Int) + (x.1.tmod (10 : Int))))])).size + x.2.1.size ≤ 9223372036854775807)) (rec (IntKind.i64.wrap (x.1.tdiv (10 : Int)), (bytesOf ([IntKind.u8.wrap (IntKind.i64.wrap ((48 : Int) + (x.1.tmod (10 : Int))))])) ++ x.2.1, ()))) (k0 (x.2.1, ()))
def laws_markText_l0 (F : Nat) : LoopFn where
  n := 20
  sh := laws_markText_l0s
  outs := laws_markText_l0o
  es := [.exit 0]
  step := fun rec K x => laws_markText_l0_step F K.1 rec x
/-- loop.example/g01021/laws.markText -/
def laws_markText (F : Nat) (x0 : El (.int .i64)) : Option (Outs [(.str, .no)]) :=
  cond (decide (x0 ≤ (0 : Int))) (some ((⟨#[109, 48]⟩ : ByteArray), ())) (runP (laws_markText_l0_step F (fun y1 => guardB (decide ((⟨#[109]⟩ : ByteArray).size + y1.1.size ≤ 9223372036854775807)) (some ((⟨#[109]⟩ : ByteArray) ++ y1.1, ())))) none F (x0, (⟨#[]⟩ : ByteArray), ()))
abbrev laws_markAirwayS_l0s : List Sh := [.val (.sl Tsiiiiii) (.own (some 0) .no), .val (.int .i64) .no, .dead, .dead, .dead, .val (.int .i64) .no, .dead, .dead, .dead, .dead, .dead, .dead, .dead, .dead, .dead, .dead, .dead, .dead, .dead, .dead, .dead, .dead, .dead, .dead, .dead, .dead, .dead, .dead, .dead, .dead, .dead, .dead, .dead, .dead, .dead, .dead, .dead, .dead, .dead, .dead, .dead, .dead, .dead, .dead, .dead, .dead, .dead, .dead, .dead, .dead, .dead, .dead, .dead, .dead, .dead, .dead, .dead, .dead, .dead, .dead, .dead, .dead, .dead]
abbrev laws_markAirwayS_l0o : List (Ex × List Sh) := [(.exit 0, [.val (.sl Tsiiiiii) (.own (some 0) .no), .val (.int .i64) .no, .dead, .dead, .dead, .dead, .dead, .dead, .dead, .dead, .dead, .dead, .dead, .dead, .dead, .dead, .dead, .dead, .dead, .dead, .dead, .dead, .dead, .dead, .dead, .dead, .dead, .dead, .dead, .dead, .dead, .dead, .dead, .dead, .dead, .dead, .dead, .dead, .dead, .dead, .dead, .dead, .dead, .dead, .dead, .dead, .dead, .dead, .dead, .dead, .dead, .dead, .dead, .dead, .dead, .dead, .dead, .dead, .dead, .dead, .dead, .dead, .dead])]
def laws_markAirwayS_l0_step {β : Type} (F : Nat) (k0 : El (.sl Tsiiiiii) × El (.int .i64) × Unit → Option β) (rec : El (.sl Tsiiiiii) × El (.int .i64) × El (.int .i64) × Unit → Option β) (x : El (.sl Tsiiiiii) × El (.int .i64) × El (.int .i64) × Unit) : Option β :=
  cond (decide (x.2.2.1 < (x.1.length : Int))) (obind (laws_markText F x.2.1) fun r1 => obind (rdAt x.1 x.2.2.1) fun v2 => obind (rdAt (x.1.set x.2.2.1.toNat (r1.1, v2.2)) x.2.2.1) fun v3 => obind (rdAt ((x.1.set x.2.2.1.toNat (r1.1, v2.2)).set x.2.2.1.toNat (v3.1, (IntKind.i64.wrap (x.2.1 + (1 : Int)), v3.2.2))) x.2.2.1) fun v4 => obind (rdAt (((x.1.set x.2.2.1.toNat (r1.1, v2.2)).set x.2.2.1.toNat (v3.1, (IntKind.i64.wrap (x.2.1 + (1 : Int)), v3.2.2))).set x.2.2.1.toNat (v4.1, (v4.2.1, (IntKind.i64.wrap ((IntKind.i64.wrap (x.2.1 + (1 : Int))) + (1 : Int)), v4.2.2.2)))) x.2.2.1) fun v5 => obind (rdAt ((((x.1.set x.2.2.1.toNat (r1.1, v2.2)).set x.2.2.1.toNat (v3.1, (IntKind.i64.wrap (x.2.1 + (1 : Int)), v3.2.2))).set x.2.2.1.toNat (v4.1, (v4.2.1, (IntKind.i64.wrap ((IntKind.i64.wrap (x.2.1 + (1 : Int))) + (1 : Int)), v4.2.2.2)))).set x.2.2.1.toNat (v5.1, (v5.2.1, (v5.2.2.1, (IntKind.i64.wrap ((IntKind.i64.wrap ((IntKind.i64.wrap (x.2.1 + (1 : Int))) + (1 : Int))) + (1 : Int)), v5.2.2.2.2))))) x.2.2.1) fun v6 => obind (rdAt (((((x.1.set x.2.2.1.toNat (r1.1, v2.2)).set x.2.2.1.toNat (v3.1, (IntKind.i64.wrap (x.2.1 + (1 : Int)), v3.2.2))).set x.2.2.1.toNat (v4.1, (v4.2.1, (IntKind.i64.wrap ((IntKind.i64.wrap (x.2.1 + (1 : Int))) + (1 : Int)), v4.2.2.2)))).set x.2.2.1.toNat (v5.1, (v5.2.1, (v5.2.2.1, (IntKind.i64.wrap ((IntKind.i64.wrap ((IntKind.i64.wrap (x.2.1 + (1 : Int))) + (1 : Int))) + (1 : Int)), v5.2.2.2.2))))).set x.2.2.1.toNat (v6.1, (v6.2.1, (v6.2.2.1, (v6.2.2.2.1, (IntKind.i64.wrap ((IntKind.i64.wrap ((IntKind.i64.wrap ((IntKind.i64.wrap (x.2.1 + (1 : Int))) + (1 : Int))) + (1 : Int))) + (1 : Int)), v6.2.2.2.2.2)))))) x.2.2.1) fun v7 => obind (rdAt ((((((x.1.set x.2.2.1.toNat (r1.1, v2.2)).set x.2.2.1.toNat (v3.1, (IntKind.i64.wrap (x.2.1 + (1 : Int)), v3.2.2))).set x.2.2.1.toNat (v4.1, (v4.2.1, (IntKind.i64.wrap ((IntKind.i64.wrap (x.2.1 + (1 : Int))) + (1 : Int)), v4.2.2.2)))).set x.2.2.1.toNat (v5.1, (v5.2.1, (v5.2.2.1, (IntKind.i64.wrap ((IntKind.i64.wrap ((IntKind.i64.wrap (x.2.1 + (1 : Int))) + (1 : Int))) + (1 : Int)), v5.2.2.2.2))))).set x.2.2.1.toNat (v6.1, (v6.2.1, (v6.2.2.1, (v6.2.2.2.1, (IntKind.i64.wrap ((IntKind.i64.wrap ((IntKind.i64.wrap ((IntKind.i64.wrap (x.2.1 + (1 : Int))) + (1 : Int))) + (1 : Int))) + (1 : Int)), v6.2.2.2.2.2)))))).set x.2.2.1.toNat (v7.1, (v7.2.1, (v7.2.2.1, (v7.2.2.2.1, (v7.2.2.2.2.1, (IntKind.i64.wrap ((IntKind.i64.wrap ((IntKind.i64.wrap ((IntKind.i64.wrap ((IntKind.i64.wrap (x.2.1 + (1 : Int))) + (1 : Int))) + (1 : Int))) + (1 : Int))) + (1 : Int)), v7.2.2.2.2.2.2))))))) x.2.2.1) fun v8 => rec (((((((x.1.set x.2.2.1.toNat (r1.1, v2.2)).set x.2.2.1.toNat (v3.1, (IntKind.i64.wrap (x.2.1 + (1 : Int)), v3.2.2))).set x.2.2.1.toNat (v4.1, (v4.2.1, (IntKind.i64.wrap ((IntKind.i64.wrap (x.2.1 + (1 : Int))) + (1 : Int)), v4.2.2.2)))).set x.2.2.1.toNat (v5.1, (v5.2.1, (v5.2.2.1, (IntKind.i64.wrap ((IntKind.i64.wrap ((IntKind.i64.wrap (x.2.1 + (1 : Int))) + (1 : Int))) + (1 : Int)), v5.2.2.2.2))))).set x.2.2.1.toNat (v6.1, (v6.2.1, (v6.2.2.1, (v6.2.2.2.1, (IntKind.i64.wrap ((IntKind.i64.wrap ((IntKind.i64.wrap ((IntKind.i64.wrap (x.2.1 + (1 : Int))) + (1 : Int))) + (1 : Int))) + (1 : Int)), v6.2.2.2.2.2)))))).set x.2.2.1.toNat (v7.1, (v7.2.1, (v7.2.2.1, (v7.2.2.2.1, (v7.2.2.2.2.1, (IntKind.i64.wrap ((IntKind.i64.wrap ((IntKind.i64.wrap ((IntKind.i64.wrap ((IntKind.i64.wrap (x.2.1 + (1 : Int))) + (1 : Int))) + (1 : Int))) + (1 : Int))) + (1 : Int)), v7.2.2.2.2.2.2))))))).set x.2.2.1.toNat (v8.1, (v8.2.1, (v8.2.2.1, (v8.2.2.2.1, (v8.2.2.2.2.1, (v8.2.2.2.2.2.1, (IntKind.i64.wrap ((IntKind.i64.wrap ((IntKind.i64.wrap ((IntKind.i64.wrap ((IntKind.i64.wrap ((IntKind.i64.wrap (x.2.1 + (1 : Int))) + (1 : Int))) + (1 : Int))) + (1 : Int))) + (1 : Int))) + (1 : Int)), v8.2.2.2.2.2.2.2))))))), IntKind.i64.wrap ((IntKind.i64.wrap ((IntKind.i64.wrap ((IntKind.i64.wrap ((IntKind.i64.wrap ((IntKind.i64.wrap ((IntKind.i64.wrap (x.2.1 + (1 : Int))) + (1 : Int))) + (1 : Int))) + (1 : Int))) + (1 : Int))) + (1 : Int))) + (1 : Int)), IntKind.i64.wrap (x.2.2.1 + (1 : Int)), ())) (k0 (x.1, x.2.1, ()))
def laws_markAirwayS_l0 (F : Nat) : LoopFn where
  n := 63
  sh := laws_markAirwayS_l0s
  outs := laws_markAirwayS_l0o
  es := [.exit 0]
  step := fun rec K x => laws_markAirwayS_l0_step F K.1 rec x
/-- loop.example/g01021/laws.markAirwayS -/
def laws_markAirwayS (F : Nat) (x0 : El (.sl Tsiiiiii)) (x1 : El (.int .i64)) : Option (Outs [((.int .i64), .no)] × El (.sl Tsiiiiii)) :=
  runP (laws_markAirwayS_l0_step F (fun y9 => some ((y9.2.1, ()), y9.1))) none F (x0, x1, (0 : Int), ())
/-- loop.example/g01021/laws.markMine -/
def laws_markMine (F : Nat) (x0 : El TiSqsiiiiiip) (x1 : El (.int .i64)) : Option (Outs [((.int .i64), .no)] × El TiSqsiiiiiip) :=
  obind (laws_markAirwayS F x0.2.1 x1) fun r1 => some ((r1.1.1, ()), (x0.1, (r1.2, x0.2.2)))
abbrev laws_markInt64S_l0s : List Sh := [.val (.sl (.int .i64)) (.own (some 0) .no), .val (.int .i64) .no, .dead, .dead, .dead, .val (.int .i64) .no, .dead, .dead, .dead, .dead, .dead, .dead, .dead, .dead, .dead, .dead, .dead, .dead, .dead]
abbrev laws_markInt64S_l0o : List (Ex × List Sh) := [(.exit 0, [.val (.sl (.int .i64)) (.own (some 0) .no), .val (.int .i64) .no, .dead, .dead, .dead, .dead, .dead, .dead, .dead, .dead, .dead, .dead, .dead, .dead, .dead, .dead, .dead, .dead, .dead])]
def laws_markInt64S_l0_step {β : Type} (F : Nat) (k0 : El (.sl (.int .i64)) × El (.int .i64) × Unit → Option β) (rec : El (.sl (.int .i64)) × El (.int .i64) × El (.int .i64) × Unit → Option β) (x : El (.sl (.int .i64)) × El (.int .i64) × El (.int .i64) × Unit) : Option β :=
  cond (decide (x.2.2.1 < (x.1.length : Int))) (obind (rdAt x.1 x.2.2.1) fun v1 => rec (x.1.set x.2.2.1.toNat x.2.1, IntKind.i64.wrap (x.2.1 + (1 : Int)), IntKind.i64.wrap (x.2.2.1 + (1 : Int)), ())) (k0 (x.1, x.2.1, ()))
def laws_markInt64S_l0 (F : Nat) : LoopFn where
  n := 19
  sh := laws_markInt64S_l0s
  outs := laws_markInt64S_l0o
  es := [.exit 0]
  step := fun rec K x => laws_markInt64S_l0_step F K.1 rec x
/-- loop.example/g01021/laws.markInt64S -/
def laws_markInt64S (F : Nat) (x0 : El (.sl (.int .i64))) (x1 : El (.int .i64)) : Option (Outs [((.int .i64), .no)] × El (.sl (.int .i64))) :=
  runP (laws_markInt64S_l0_step F (fun y2 => some ((y2.2.1, ()), y2.1))) none F (x0, x1, (0 : Int), ())
abbrev laws_markInt64SS_l0s : List Sh := [.val (.sl (.sl (.int .i64))) (.own (some 0) (.own none .no)), .val (.int .i64) .no, .dead, .dead, .dead, .val (.int .i64) .no, .dead, .dead, .dead, .dead, .dead, .dead, .dead, .dead, .dead, .dead, .dead, .dead, .dead]
abbrev laws_markInt64SS_l0o : List (Ex × List Sh) := [(.exit 0, [.val (.sl (.sl (.int .i64))) (.own (some 0) (.own none .no)), .val (.int .i64) .no, .dead, .dead, .dead, .dead, .dead, .dead, .dead, .dead, .dead, .dead, .dead, .dead, .dead, .dead, .dead, .dead, .dead])]
def laws_markInt64SS_l0_step {β : Type} (F : Nat) (k0 : El (.sl (.sl (.int .i64))) × El (.int .i64) × Unit → Option β) (rec : El (.sl (.sl (.int .i64))) × El (.int .i64) × El (.int .i64) × Unit → Option β) (x : El (.sl (.sl (.int .i64))) × El (.int .i64) × El (.int .i64) × Unit) : Option β :=
  cond (decide (x.2.2.1 < (x.1.length : Int))) (obind (rdAt x.1 x.2.2.1) fun v1 => obind (laws_markInt64S F v1 x.2.1) fun r2 => rec (x.1.set x.2.2.1.toNat r2.2, r2.1.1, IntKind.i64.wrap (x.2.2.1 + (1 : Int)), ())) (k0 (x.1, x.2.1, ()))
def laws_markInt64SS_l0 (F : Nat) : LoopFn where
  n := 19
  sh := laws_markInt64SS_l0s
  outs := laws_markInt64SS_l0o
  es := [.exit 0]
  step := fun rec K x => laws_markInt64SS_l0_step F K.1 rec x
/-- loop.example/g01021/laws.markInt64SS -/
def laws_markInt64SS (F : Nat) (x0 : El (.sl (.sl (.int .i64)))) (x1 : El (.int .i64)) : Option (Outs [((.int .i64), .no)] × El (.sl (.sl (.int .i64)))) :=
  runP (laws_markInt64SS_l0_step F (fun y3 => some ((y3.2.1, ()), y3.1))) none F (x0, x1, (0 : Int), ())
abbrev laws_markFanS_l0s : List Sh := [.val (.sl TsiSSi) (.own (some 0) (.pr .no (.pr .no (.pr (.own none (.own none .no)) .no)))), .val (.int .i64) .no, .dead, .dead, .dead, .val (.int .i64) .no, .dead, .dead, .dead, .dead, .dead, .dead, .dead, .dead, .dead, .dead, .dead, .dead, .dead, .dead, .dead, .dead, .dead, .dead, .dead, .dead, .dead, .dead, .dead, .dead, .dead, .dead, .dead, .dead, .dead]
abbrev laws_markFanS_l0o : List (Ex × List Sh) := [(.exit 0, [.val (.sl TsiSSi) (.own (some 0) (.pr .no (.pr .no (.pr (.own none (.own none .no)) .no)))), .val (.int .i64) .no, .dead, .dead, .dead, .dead, .dead, .dead, .dead, .dead, .dead, .dead, .dead, .dead, .dead, .dead, .dead, .dead, .dead, .dead, .dead, .dead, .dead, .dead, .dead, .dead, .dead, .dead, .dead, .dead, .dead, .dead, .dead, .dead, .dead])]
def laws_markFanS_l0_step {β : Type} (F : Nat) (k0 : El (.sl TsiSSi) × El (.int .i64) × Unit → Option β) (rec : El (.sl TsiSSi) × El (.int .i64) × El (.int .i64) × Unit → Option β) (x : El (.sl TsiSSi) × El (.int .i64) × El (.int .i64) × Unit) : Option β :=
  cond (decide (x.2.2.1 < (x.1.length : Int))) (obind (laws_markText F x.2.1) fun r1 => obind (rdAt x.1 x.2.2.1) fun v2 => obind (rdAt (x.1.set x.2.2.1.toNat (r1.1, v2.2)) x.2.2.1) fun v3 => obind (rdAt ((x.1.set x.2.2.1.toNat (r1.1, v2.2)).set x.2.2.1.toNat (v3.1, (IntKind.i64.wrap (x.2.1 + (1 : Int)), v3.2.2))) x.2.2.1) fun v4 => obind (laws_markInt64SS F v4.2.2.1 (IntKind.i64.wrap ((IntKind.i64.wrap (x.2.1 + (1 : Int))) + (1 : Int)))) fun r5 => rec (((x.1.set x.2.2.1.toNat (r1.1, v2.2)).set x.2.2.1.toNat (v3.1, (IntKind.i64.wrap (x.2.1 + (1 : Int)), v3.2.2))).set x.2.2.1.toNat (v4.1, (v4.2.1, (r5.2, v4.2.2.2))), r5.1.1, IntKind.i64.wrap (x.2.2.1 + (1 : Int)), ())) (k0 (x.1, x.2.1, ()))
def laws_markFanS_l0 (F : Nat) : LoopFn where
  n := 35
  sh := laws_markFanS_l0s
  outs := laws_markFanS_l0o
  es := [.exit 0]
  step := fun rec K x => laws_markFanS_l0_step F K.1 rec x
/-- loop.example/g01021/laws.markFanS -/
def laws_markFanS (F : Nat) (x0 : El (.sl TsiSSi)) (x1 : El (.int .i64)) : Option (Outs [((.int .i64), .no)] × El (.sl TsiSSi)) :=
  runP (laws_markFanS_l0_step F (fun y6 => some ((y6.2.1, ()), y6.1))) none F (x0, x1, (0 : Int), ())
abbrev laws_markRefugeS_l0s : List Sh := [.val (.sl Tsiii) (.own (some 0) .no), .val (.int .i64) .no, .dead, .dead, .dead, .val (.int .i64) .no, .dead, .dead, .dead, .dead, .dead, .dead, .dead, .dead, .dead, .dead, .dead, .dead, .dead, .dead, .dead, .dead, .dead, .dead, .dead, .dead, .dead, .dead, .dead, .dead, .dead, .dead, .dead, .dead, .dead, .dead, .dead, .dead, .dead, .dead, .dead, .dead]
abbrev laws_markRefugeS_l0o : List (Ex × List Sh) := [(.exit 0, [.val (.sl Tsiii) (.own (some 0) .no), .val (.int .i64) .no, .dead, .dead, .dead, .dead, .dead, .dead, .dead, .dead, .dead, .dead, .dead, .dead, .dead, .dead, .dead, .dead, .dead, .dead, .dead, .dead, .dead, .dead, .dead, .dead, .dead, .dead, .dead, .dead, .dead, .dead, .dead, .dead, .dead, .dead, .dead, .dead, .dead, .dead, .dead, .dead])]
def laws_markRefugeS_l0_step {β : Type} (F : Nat) (k0 : El (.sl Tsiii) × El (.int .i64) × Unit → Option β) (rec : El (.sl Tsiii) × El (.int .i64) × El (.int .i64) × Unit → Option β) (x : El (.sl Tsiii) × El (.int .i64) × El (.int .i64) × Unit) : Option β :=
  cond (decide (x.2.2.1 < (x.1.length : Int))) (obind (laws_markText F x.2.1) fun r1 => obind (rdAt x.1 x.2.2.1) fun v2 => obind (rdAt (x.1.set x.2.2.1.toNat (r1.1, v2.2)) x.2.2.1) fun v3 => obind (rdAt ((x.1.set x.2.2.1.toNat (r1.1, v2.2)).set x.2.2.1.toNat (v3.1, (IntKind.i64.wrap (x.2.1 + (1 : Int)), v3.2.2))) x.2.2.1) fun v4 => obind (rdAt (((x.1.set x.2.2.1.toNat (r1.1, v2.2)).set x.2.2.1.toNat (v3.1, (IntKind.i64.wrap (x.2.1 + (1 : Int)), v3.2.2))).set x.2.2.1.toNat (v4.1, (v4.2.1, (IntKind.i64.wrap ((IntKind.i64.wrap (x.2.1 + (1 : Int))) + (1 : Int)), v4.2.2.2)))) x.2.2.1) fun v5 => rec ((((x.1.set x.2.2.1.toNat (r1.1, v2.2)).set x.2.2.1.toNat (v3.1, (IntKind.i64.wrap (x.2.1 + (1 : Int)), v3.2.2))).set x.2.2.1.toNat (v4.1, (v4.2.1, (IntKind.i64.wrap ((IntKind.i64.wrap (x.2.1 + (1 : Int))) + (1 : Int)), v4.2.2.2)))).set x.2.2.1.toNat (v5.1, (v5.2.1, (v5.2.2.1, (IntKind.i64.wrap ((IntKind.i64.wrap ((IntKind.i64.wrap (x.2.1 + (1 : Int))) + (1 : Int))) + (1 : Int)), v5.2.2.2.2)))), IntKind.i64.wrap ((IntKind.i64.wrap ((IntKind.i64.wrap ((IntKind.i64.wrap (x.2.1 + (1 : Int))) + (1 : Int))) + (1 : Int))) + (1 : Int)), IntKind.i64.wrap (x.2.2.1 + (1 : Int)), ())) (k0 (x.1, x.2.1, ()))
def laws_markRefugeS_l0 (F : Nat) : LoopFn where
  n := 42
  sh := laws_markRefugeS_l0s
  outs := laws_markRefugeS_l0o
  es := [.exit 0]
  step := fun rec K x => laws_markRefugeS_l0_step F K.1 rec x
/-- loop.example/g01021/laws.markRefugeS -/
def laws_markRefugeS (F : Nat) (x0 : El (.sl Tsiii)) (x1 : El (.int .i64)) : Option (Outs [((.int .i64), .no)] × El (.sl Tsiii)) :=
  runP (laws_markRefugeS_l0_step F (fun y6 => some ((y6.2.1, ()), y6.1))) none F (x0, x1, (0 : Int), ())
abbrev laws_markSensorS_l0s : List Sh := [.val (.sl Tsiiii) (.own (some 0) .no), .val (.int .i64) .no, .dead, .dead, .dead, .val (.int .i64) .no, .dead, .dead, .dead, .dead, .dead, .dead, .dead, .dead, .dead, .dead, .dead, .dead, .dead, .dead, .dead, .dead, .dead, .dead, .dead, .dead, .dead, .dead, .dead, .dead, .dead, .dead, .dead, .dead, .dead, .dead, .dead, .dead, .dead, .dead, .dead, .dead, .dead, .dead, .dead, .dead, .dead, .dead, .dead]
abbrev laws_markSensorS_l0o : List (Ex × List Sh) := [(.exit 0, [.val (.sl Tsiiii) (.own (some 0) .no), .val (.int .i64) .no, .dead, .dead, .dead, .dead, .dead, .dead, .dead, .dead, .dead, .dead, .dead, .dead, .dead, .dead, .dead, .dead, .dead, .dead, .dead, .dead, .dead, .dead, .dead, .dead, .dead, .dead, .dead, .dead, .dead, .dead, .dead, .dead, .dead, .dead, .dead, .dead, .dead, .dead, .dead, .dead, .dead, .dead, .dead, .dead, .dead, .dead, .dead])]
def laws_markSensorS_l0_step {β : Type} (F : Nat) (k0 : El (.sl Tsiiii) × El (.int .i64) × Unit → Option β) (rec : El (.sl Tsiiii) × El (.int .i64) × El (.int .i64) × Unit → Option β) (x : El (.sl Tsiiii) × El (.int .i64) × El (.int .i64) × Unit) : Option β :=
  cond (decide (x.2.2.1 < (x.1.length : Int))) (obind (laws_markText F x.2.1) fun r1 => obind (rdAt x.1 x.2.2.1) fun v2 => obind (rdAt (x.1.set x.2.2.1.toNat (r1.1, v2.2)) x.2.2.1) fun v3 => obind (rdAt ((x.1.set x.2.2.1.toNat (r1.1, v2.2)).set x.2.2.1.toNat (v3.1, (IntKind.i64.wrap (x.2.1 + (1 : Int)), v3.2.2))) x.2.2.1) fun v4 => obind (rdAt (((x.1.set x.2.2.1.toNat (r1.1, v2.2)).set x.2.2.1.toNat (v3.1, (IntKind.i64.wrap (x.2.1 + (1 : Int)), v3.2.2))).set x.2.2.1.toNat (v4.1, (v4.2.1, (IntKind.i64.wrap ((IntKind.i64.wrap (x.2.1 + (1 : Int))) + (1 : Int)), v4.2.2.2)))) x.2.2.1) fun v5 => obind (rdAt ((((x.1.set x.2.2.1.toNat (r1.1, v2.2)).set x.2.2.1.toNat (v3.1, (IntKind.i64.wrap (x.2.1 + (1 : Int)), v3.2.2))).set x.2.2.1.toNat (v4.1, (v4.2.1, (IntKind.i64.wrap ((IntKind.i64.wrap (x.2.1 + (1 : Int))) + (1 : Int)), v4.2.2.2)))).set x.2.2.1.toNat (v5.1, (v5.2.1, (v5.2.2.1, (IntKind.i64.wrap ((IntKind.i64.wrap ((IntKind.i64.wrap (x.2.1 + (1 : Int))) + (1 : Int))) + (1 : Int)), v5.2.2.2.2))))) x.2.2.1) fun v6 => rec (((((x.1.set x.2.2.1.toNat (r1.1, v2.2)).set x.2.2.1.toNat (v3.1, (IntKind.i64.wrap (x.2.1 + (1 : Int)), v3.2.2))).set x.2.2.1.toNat (v4.1, (v4.2.1, (IntKind.i64.wrap ((IntKind.i64.wrap (x.2.1 + (1 : Int))) + (1 : Int)), v4.2.2.2)))).set x.2.2.1.toNat (v5.1, (v5.2.1, (v5.2.2.1, (IntKind.i64.wrap ((IntKind.i64.wrap ((IntKind.i64.wrap (x.2.1 + (1 : Int))) + (1 : Int))) + (1 : Int)), v5.2.2.2.2))))).set x.2.2.1.toNat (v6.1, (v6.2.1, (v6.2.2.1, (v6.2.2.2.1, (IntKind.i64.wrap ((IntKind.i64.wrap ((IntKind.i64.wrap ((IntKind.i64.wrap (x.2.1 + (1 : Int))) + (1 : Int))) + (1 : Int))) + (1 : Int)), v6.2.2.2.2.2))))), IntKind.i64.wrap ((IntKind.i64.wrap ((IntKind.i64.wrap ((IntKind.i64.wrap ((IntKind.i64.wrap (x.2.1 + (1 : Int))) + (1 : Int))) + (1 : Int))) + (1 : Int))) + (1 : Int)), IntKind.i64.wrap (x.2.2.1 + (1 : Int)), ())) (k0 (x.1, x.2.1, ()))
def laws_markSensorS_l0 (F : Nat) : LoopFn where
  n := 49
  sh := laws_markSensorS_l0s
  outs := laws_markSensorS_l0o
  es := [.exit 0]
  step := fun rec K x => laws_markSensorS_l0_step F K.1 rec x
/-- loop.example/g01021/laws.markSensorS -/
def laws_markSensorS (F : Nat) (x0 : El (.sl Tsiiii)) (x1 : El (.int .i64)) : Option (Outs [((.int .i64), .no)] × El (.sl Tsiiii)) :=
  runP (laws_markSensorS_l0_step F (fun y7 => some ((y7.2.1, ()), y7.1))) none F (x0, x1, (0 : Int), ())
abbrev laws_markPermitS_l0s : List Sh := [.val (.sl Tsiiii) (.own (some 0) .no), .val (.int .i64) .no, .dead, .dead, .dead, .val (.int .i64) .no, .dead, .dead, .dead, .dead, .dead, .dead, .dead, .dead, .dead, .dead, .dead, .dead, .dead, .dead, .dead, .dead, .dead, .dead, .dead, .dead, .dead, .dead, .dead, .dead, .dead, .dead, .dead, .dead, .dead, .dead, .dead, .dead, .dead, .dead, .dead, .dead, .dead, .dead, .dead, .dead, .dead, .dead, .dead]
abbrev laws_markPermitS_l0o : List (Ex × List Sh) := [(.exit 0, [.val (.sl Tsiiii) (.own (some 0) .no), .val (.int .i64) .no, .dead, .dead, .dead, .dead, .dead, .dead, .dead, .dead, .dead, .dead, .dead, .dead, .dead, .dead, .dead, .dead, .dead, .dead, .dead, .dead, .dead, .dead, .dead, .dead, .dead, .dead, .dead, .dead, .dead, .dead, .dead, .dead, .dead, .dead, .dead, .dead, .dead, .dead, .dead, .dead, .dead, .dead, .dead, .dead, .dead, .dead, .dead])]
def laws_markPermitS_l0_step {β : Type} (F : Nat) (k0 : El (.sl Tsiiii) × El (.int .i64) × Unit → Option β) (rec : El (.sl Tsiiii) × El (.int .i64) × El (.int .i64) × Unit → Option β) (x : El (.sl Tsiiii) × El (.int .i64) × El (.int .i64) × Unit) : Option β :=
  cond (decide (x.2.2.1 < (x.1.length : Int))) (obind (laws_markText F x.2.1) fun r1 => obind (rdAt x.1 x.2.2.1) fun v2 => obind (rdAt (x.1.set x.2.2.1.toNat (r1.1, v2.2)) x.2.2.1) fun v3 => obind (rdAt ((x.1.set x.2.2.1.toNat (r1.1, v2.2)).set x.2.2.1.toNat (v3.1, (IntKind.i64.wrap (x.2.1 + (1 : Int)), v3.2.2))) x.2.2.1) fun v4 => obind (rdAt (((x.1.set x.2.2.1.toNat (r1.1, v2.2)).set x.2.2.1.toNat (v3.1, (IntKind.i64.wrap (x.2.1 + (1 : Int)), v3.2.2))).set x.2.2.1.toNat (v4.1, (v4.2.1, (IntKind.i64.wrap ((IntKind.i64.wrap (x.2.1 + (1 : Int))) + (1 : Int)), v4.2.2.2)))) x.2.2.1) fun v5 => obind (rdAt ((((x.1.set x.2.2.1.toNat (r1.1, v2.2)).set x.2.2.1.toNat (v3.1, (IntKind.i64.wrap (x.2.1 + (1 : Int)), v3.2.2))).set x.2.2.1.toNat (v4.1, (v4.2.1, (IntKind.i64.wrap ((IntKind.i64.wrap (x.2.1 + (1 : Int))) + (1 : Int)), v4.2.2.2)))).set x.2.2.1.toNat (v5.1, (v5.2.1, (v5.2.2.1, (IntKind.i64.wrap ((IntKind.i64.wrap ((IntKind.i64.wrap (x.2.1 + (1 : Int))) + (1 : Int))) + (1 : Int)), v5.2.2.2.2))))) x.2.2.1) fun v6 => rec (((((x.1.set x.2.2.1.toNat (r1.1, v2.2)).set x.2.2.1.toNat (v3.1, (IntKind.i64.wrap (x.2.1 + (1 : Int)), v3.2.2))).set x.2.2.1.toNat (v4.1, (v4.2.1, (IntKind.i64.wrap ((IntKind.i64.wrap (x.2.1 + (1 : Int))) + (1 : Int)), v4.2.2.2)))).set x.2.2.1.toNat (v5.1, (v5.2.1, (v5.2.2.1, (IntKind.i64.wrap ((IntKind.i64.wrap ((IntKind.i64.wrap (x.2.1 + (1 : Int))) + (1 : Int))) + (1 : Int)), v5.2.2.2.2))))).set x.2.2.1.toNat (v6.1, (v6.2.1, (v6.2.2.1, (v6.2.2.2.1, (IntKind.i64.wrap ((IntKind.i64.wrap ((IntKind.i64.wrap ((IntKind.i64.wrap (x.2.1 + (1 : Int))) + (1 : Int))) + (1 : Int))) + (1 : Int)), v6.2.2.2.2.2))))), IntKind.i64.wrap ((IntKind.i64.wrap ((IntKind.i64.wrap ((IntKind.i64.wrap ((IntKind.i64.wrap (x.2.1 + (1 : Int))) + (1 : Int))) + (1 : Int))) + (1 : Int))) + (1 : Int)), IntKind.i64.wrap (x.2.2.1 + (1 : Int)), ())) (k0 (x.1, x.2.1, ()))
def laws_markPermitS_l0 (F : Nat) : LoopFn where
  n := 49
  sh := laws_markPermitS_l0s
  outs := laws_markPermitS_l0o
  es := [.exit 0]
  step := fun rec K x => laws_markPermitS_l0_step F K.1 rec x
/-- loop.example/g01021/laws.markPermitS -/
def laws_markPermitS (F : Nat) (x0 : El (.sl Tsiiii)) (x1 : El (.int .i64)) : Option (Outs [((.int .i64), .no)] × El (.sl Tsiiii)) :=
  runP (laws_markPermitS_l0_step F (fun y7 => some ((y7.2.1, ()), y7.1))) none F (x0, x1, (0 : Int), ())
abbrev laws_markDrillS_l0s : List Sh := [.val (.sl Tisiii) (.own (some 0) .no), .val (.int .i64) .no, .dead, .dead, .dead, .val (.int .i64) .no, .dead, .dead, .dead, .dead, .dead, .dead, .dead, .dead, .dead, .dead, .dead, .dead, .dead, .dead, .dead, .dead, .dead, .dead, .dead, .dead, .dead, .dead, .dead, .dead, .dead, .dead, .dead, .dead, .dead, .dead, .dead, .dead, .dead, .dead, .dead, .dead, .dead, .dead, .dead, .dead, .dead, .dead, .dead]
abbrev laws_markDrillS_l0o : List (Ex × List Sh) := [(.exit 0, [.val (.sl Tisiii) (.own (some 0) .no), .val (.int .i64) .no, .dead, .dead, .dead, .dead, .dead, .dead, .dead, .dead, .dead, .dead, .dead, .dead, .dead, .dead, .dead, .dead, .dead, .dead, .dead, .dead, .dead, .dead, .dead, .dead, .dead, .dead, .dead, .dead, .dead, .dead, .dead, .dead, .dead, .dead, .dead, .dead, .dead, .dead, .dead, .dead, .dead, .dead, .dead, .dead, .dead, .dead, .dead])]
def laws_markDrillS_l0_step {β : Type} (F : Nat) (k0 : El (.sl Tisiii) × El (.int .i64) × Unit → Option β) (rec : El (.sl Tisiii) × El (.int .i64) × El (.int .i64) × Unit → Option β) (x : El (.sl Tisiii) × El (.int .i64) × El (.int .i64) × Unit) : Option β :=
  cond (decide (x.2.2.1 < (x.1.length : Int))) (obind (rdAt x.1 x.2.2.1) fun v1 => obind (laws_markText F (IntKind.i64.wrap (x.2.1 + (1 : Int)))) fun r2 => obind (rdAt (x.1.set x.2.2.1.toNat (x.2.1, v1.2)) x.2.2.1) fun v3 => obind (rdAt ((x.1.set x.2.2.1.toNat (x.2.1, v1.2)).set x.2.2.1.toNat (v3.1, (r2.1, v3.2.2))) x.2.2.1) fun v4 => obind (rdAt (((x.1.set x.2.2.1.toNat (x.2.1, v1.2)).set x.2.2.1.toNat (v3.1, (r2.1, v3.2.2))).set x.2.2.1.toNat (v4.1, (v4.2.1, (IntKind.i64.wrap ((IntKind.i64.wrap (x.2.1 + (1 : Int))) + (1 : Int)), v4.2.2.2)))) x.2.2.1) fun v5 => obind (rdAt ((((x.1.set x.2.2.1.toNat (x.2.1, v1.2)).set x.2.2.1.toNat (v3.1, (r2.1, v3.2.2))).set x.2.2.1.toNat (v4.1, (v4.2.1, (IntKind.i64.wrap ((IntKind.i64.wrap (x.2.1 + (1 : Int))) + (1 : Int)), v4.2.2.2)))).set x.2.2.1.toNat (v5.1, (v5.2.1, (v5.2.2.1, (IntKind.i64.wrap ((IntKind.i64.wrap ((IntKind.i64.wrap (x.2.1 + (1 : Int))) + (1 : Int))) + (1 : Int)), v5.2.2.2.2))))) x.2.2.1) fun v6 => rec (((((x.1.set x.2.2.1.toNat (x.2.1, v1.2)).set x.2.2.1.toNat (v3.1, (r2.1, v3.2.2))).set x.2.2.1.toNat (v4.1, (v4.2.1, (IntKind.i64.wrap ((IntKind.i64.wrap (x.2.1 + (1 : Int))) + (1 : Int)), v4.2.2.2)))).set x.2.2.1.toNat (v5.1, (v5.2.1, (v5.2.2.1, (IntKind.i64.wrap ((IntKind.i64.wrap ((IntKind.i64.wrap (x.2.1 + (1 : Int))) + (1 : Int))) + (1 : Int)), v5.2.2.2.2))))).set x.2.2.1.toNat (v6.1, (v6.2.1, (v6.2.2.1, (v6.2.2.2.1, (IntKind.i64.wrap ((IntKind.i64.wrap ((IntKind.i64.wrap ((IntKind.i64.wrap (x.2.1 + (1 : Int))) + (1 : Int))) + (1 : Int))) + (1 : Int)), v6.2.2.2.2.2))))), IntKind.i64.wrap ((IntKind.i64.wrap ((IntKind.i64.wrap ((IntKind.i64.wrap ((IntKind.i64.wrap (x.2.1 + (1 : Int))) + (1 : Int))) + (1 : Int))) + (1 : Int))) + (1 : Int)), IntKind.i64.wrap (x.2.2.1 + (1 : Int)), ())) (k0 (x.1, x.2.1, ()))
def laws_markDrillS_l0 (F : Nat) : LoopFn where
  n := 49
  sh := laws_markDrillS_l0s
  outs := laws_markDrillS_l0o
  es := [.exit 0]
  step := fun rec K x => laws_markDrillS_l0_step F K.1 rec x
/-- loop.example/g01021/laws.markDrillS -/
def laws_markDrillS (F : Nat) (x0 : El (.sl Tisiii)) (x1 : El (.int .i64)) : Option (Outs [((.int .i64), .no)] × El (.sl Tisiii)) :=
  runP (laws_markDrillS_l0_step F (fun y7 => some ((y7.2.1, ()), y7.1))) none F (x0, x1, (0 : Int), ())
/-- loop.example/g01021/laws.markDesk -/
def laws_markDesk (F : Nat) (x0 : El T5d55a700) (x1 : El (.int .i64)) : Option (Outs [((.int .i64), .no)] × El T5d55a700) :=
  obind (laws_markMine F x0.1 x1) fun r1 => obind (laws_markInt64S F x0.2.1 r1.1.1) fun r2 => obind (laws_markInt64S F x0.2.2.1 r2.1.1) fun r3 => obind (laws_markFanS F x0.2.2.2.1 r3.1.1) fun r4 => obind (laws_markRefugeS F x0.2.2.2.2.1 r4.1.1) fun r5 => obind (laws_markSensorS F x0.2.2.2.2.2.1 r5.1.1) fun r6 => obind (laws_markPermitS F x0.2.2.2.2.2.2.1 r6.1.1) fun r7 => obind (laws_markDrillS F x0.2.2.2.2.2.2.2.1 r7.1.1) fun r8 => some ((r8.1.1, ()), ((x0.1.1, (r1.2.2.1, x0.1.2.2)), (r2.2, (r3.2, (r4.2, (r5.2, (r6.2, (r7.2, (r8.2, x0.2.2.2.2.2.2.2.2)))))))))
abbrev laws_markStringS_l0s : List Sh := [.val (.sl .str) (.own (some 0) .no), .val (.int .i64) .no, .dead, .dead, .dead, .val (.int .i64) .no, .dead, .dead, .dead, .dead, .dead, .dead, .dead, .dead, .dead, .dead, .dead, .dead, .dead, .dead]
abbrev laws_markStringS_l0o : List (Ex × List Sh) := [(.exit 0, [.val (.sl .str) (.own (some 0) .no), .val (.int .i64) .no, .dead, .dead, .dead, .dead, .dead, .dead, .dead, .dead, .dead, .dead, .dead, .dead, .dead, .dead, .dead, .dead, .dead, .dead])]
def laws_markStringS_l0_step {β : Type} (F : Nat) (k0 : El (.sl .str) × El (.int .i64) × Unit → Option β) (rec : El (.sl .str) × El (.int .i64) × El (.int .i64) × Unit → Option β) (x : El (.sl .str) × El (.int .i64) × El (.int .i64) × Unit) : Option β :=
  cond (decide (x.2.2.1 < (x.1.length : Int))) (obind (laws_markText F x.2.1) fun r1 => obind (rdAt x.1 x.2.2.1) fun v2 => rec (x.1.set x.2.2.1.toNat r1.1, IntKind.i64.wrap (x.2.1 + (1 : Int)), IntKind.i64.wrap (x.2.2.1 + (1 : Int)), ())) (k0 (x.1, x.2.1, ()))
def laws_markStringS_l0 (F : Nat) : LoopFn where
  n := 20
  sh := laws_markStringS_l0s
  outs := laws_markStringS_l0o
  es := [.exit 0]
  step := fun rec K x => laws_markStringS_l0_step F K.1 rec x
/-- loop.example/g01021/laws.markStringS -/
def laws_markStringS (F : Nat) (x0 : El (.sl .str)) (x1 : El (.int .i64)) : Option (Outs [((.int .i64), .no)] × El (.sl .str)) :=
  runP (laws_markStringS_l0_step F (fun y3 => some ((y3.2.1, ()), y3.1))) none F (x0, x1, (0 : Int), ())
abbrev laws_heldStringS_l0s : List Sh := [.val (.sl .str) .no, .val (.int .i64) .no, .dead, .dead, .dead, .val (.int .i64) .no, .dead, .dead, .dead, .dead, .dead, .dead, .dead, .dead, .dead, .dead, .dead, .dead, .dead, .dead, .dead, .dead]
abbrev laws_heldStringS_l0o : List (Ex × List Sh) := [(.ret, [.dead, .dead, .dead, .dead, .val (.int .i64) .no, .dead, .dead, .dead, .dead, .dead, .dead, .dead, .dead, .dead, .dead, .dead, .dead, .dead, .dead, .dead, .dead, .dead]), (.exit 0, [.dead, .val (.int .i64) .no, .dead, .dead, .dead, .dead, .dead, .dead, .dead, .dead, .dead, .dead, .dead, .dead, .dead, .dead, .dead, .dead, .dead, .dead, .dead, .dead])]
def laws_heldStringS_l0_step {β : Type} (F : Nat) (k0 : El (.int .i64) × Unit → Option β) (k1 : El (.int .i64) × Unit → Option β) (rec : El (.sl .str) × El (.int .i64) × El (.int .i64) × Unit → Option β) (x : El (.sl .str) × El (.int .i64) × El (.int .i64) × Unit) : Option β :=
  cond (decide (x.2.2.1 < (x.1.length : Int))) (obind (rdAt x.1 x.2.2.1) fun v1 => obind (laws_markText F x.2.1) fun r2 => cond (!(v1.toList == r2.1.toList)) (k0 ((-1 : Int), ())) (rec (x.1, IntKind.i64.wrap (x.2.1 + (1 : Int)), IntKind.i64.wrap (x.2.2.1 + (1 : Int)), ()))) (k1 (x.2.1, ()))
def laws_heldStringS_l0 (F : Nat) : LoopFn where
  n := 22
  sh := laws_heldStringS_l0s
  outs := laws_heldStringS_l0o
  es := [.ret, .exit 0]
  step := fun rec K x => laws_heldStringS_l0_step F K.1 K.2.1 rec x
/-- loop.example/g01021/laws.heldStringS -/
def laws_heldStringS (F : Nat) (x0 : El (.sl .str)) (x1 : El (.int .i64)) : Option (Outs [((.int .i64), .no)]) :=
  runP (laws_heldStringS_l0_step F (fun y3 => some (y3.1, ())) (fun y3 => some (y3.1, ()))) none F (x0, x1, (0 : Int), ())
/-- loop.example/g01021/laws.FnExactDeskReport -/
def laws_FnExactDeskReport (F : Nat) (x0 : El T5d55a700) : Option (Outs [(.bool, .no)]) :=
  obind (laws_szDesk F x0 (1048576 : Int)) fun r1 => cond (decide (r1.1 < (0 : Int))) (some (true, ())) (obind (laws_toDesk F x0) fun r2 => obind (spec_DeskReport F r2.1) fun r3 => obind (laws_toDesk F x0) fun r4 => obind (impl_DeskReport F r4.1) fun r5 => obind (laws_eqStringS F r5.1 r3.1) fun r6 => cond (!r6.1) (some (false, ())) (cond (r5.2.1 != r3.2.1) (some (false, ())) (obind (laws_toDesk F x0) fun r7 => obind (laws_eqDesk F r4.1 r7.1) fun r8 => cond (!r8.1) (some (false, ())) (obind (laws_markDesk F r4.1 (1 : Int)) fun r9 => cond (decide (r9.1.1 < (0 : Int))) (some (false, ())) (obind (laws_eqStringS F r5.1 r3.1) fun r10 => cond (!r10.1) (some (false, ())) (cond (r5.2.1 != r3.2.1) (some (false, ())) (obind (laws_markStringS F r5.1 (1 : Int)) fun r11 => obind (laws_heldStringS F r11.2 (1 : Int)) fun r12 => cond (decide (r12.1 < (0 : Int))) (some (false, ())) (cond (r12.1 != r11.1.1) (some (false, ())) (obind (laws_toDesk F x0) fun r13 => obind (impl_DeskReport F r13.1) fun r14 => obind (laws_eqStringS F r14.1 r3.1) fun r15 => cond (!r15.1) (some (false, ())) (cond (r14.2.1 != r3.2.1) (some (false, ())) (obind (laws_heldStringS F r11.2 (1 : Int)) fun r16 => cond (decide (r16.1 < (0 : Int))) (some (false, ())) (cond (r16.1 != r11.1.1) (some (false, ())) (some (true, ()))))))))))))))
end Go.Ev.Z
