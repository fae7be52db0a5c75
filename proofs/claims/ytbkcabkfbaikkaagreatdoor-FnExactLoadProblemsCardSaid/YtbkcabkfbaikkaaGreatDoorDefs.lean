/- A part of the proof: lemmas that the law's theorem uses; their conditions stand in each theorem. -/
import Derived.Test.YtbkcabkfbaikkaaGreatDoorEvThree
namespace Go.Ev.Z
set_option maxRecDepth 100000
abbrev Tiss : Ty := (.prod (.int .i64) (.prod .str (.prod .str .unit)))
abbrev Tsii : Ty := (.prod .str (.prod (.int .i64) (.prod (.int .i64) .unit)))
abbrev Tiii : Ty := (.prod (.int .i64) (.prod (.int .i64) (.prod (.int .i64) .unit)))
abbrev TsiSSi : Ty := (.prod .str (.prod (.int .i64) (.prod (.sl (.sl (.int .i64))) .unit)))
abbrev Tsiii : Ty := (.prod .str Tiii)
abbrev Tsiiiiii : Ty := (.prod .str (.prod (.int .i64) (.prod (.int .i64) (.prod (.int .i64) Tiii))))
abbrev TiSqsiiiiiip : Ty := (.prod (.int .i64) (.prod (.sl Tsiiiiii) .unit))
abbrev T9444c66c : Ty := (.prod TiSqsiiiiiip (.prod (.sl Tsiii) (.prod (.sl (.sl (.int .i64))) (.prod (.sl TsiSSi) (.prod (.sl (.int .i64)) (.prod (.int .i64) .unit))))))
abbrev Tc66acf8c : Ty := (.prod T9444c66c (.prod (.sl .bool) (.prod (.sl (.int .i64)) (.prod (.sl Tiii) (.prod (.sl Tsii) (.prod (.int .i64) (.prod (.sl Tsiii) (.prod (.sl Tsii) (.prod (.sl (.int .i64)) (.prod Tiii (.prod (.int .i64) .unit)))))))))))
def tab : List (Nat × Ty × Nat) := [(2, (.int .i64), 0), (3, (.int .i64), 0), (4, .bool, 0), (5, (.int .u8), 0), (9, .str, 0), (22, (.sl Tsiiiiii), 64), (24, TiSqsiiiiiip, 0), (25, (.sl Tsiii), 40), (26, (.sl (.sl (.int .i64))), 24), (27, (.sl TsiSSi), 48), (28, (.sl (.int .i64)), 8), (30, T9444c66c, 0), (31, (.sl .bool), 1), (32, (.sl Tiii), 24), (33, (.sl Tsii), 32), (34, (.sl Tsiii), 40), (35, (.sl Tsii), 32), (37, Tiii, 0), (39, Tc66acf8c, 0), (41, (.sl Tiss), 40), (44, (.sl Tsiiiiii), 64), (46, TiSqsiiiiiip, 0), (47, (.sl Tsiii), 40), (48, (.sl TsiSSi), 48), (50, T9444c66c, 0), (51, (.sl Tiii), 24), (52, (.sl Tsii), 32), (53, (.sl Tsiii), 40), (54, (.sl Tsii), 32), (55, Tiii, 0), (57, Tc66acf8c, 0), (73, (.ptr Tc66acf8c), 0), (83, .fnu, 0), (86, Tiss, 0), (109, Tsii, 0), (112, Tsiii, 0), (115, Tsii, 0), (121, Tiii, 0), (123, Tiii, 0), (124, Tsii, 0), (126, Tsiii, 0), (128, Tsii, 0), (130, (.sl .fnu), 8), (134, Tsiiiiii, 0), (150, (.sl (.int .u8)), 1), (160, Tsiii, 0), (161, (.ptr TiSqsiiiiiip), 0), (163, (.ptr T9444c66c), 0), (173, (.ptr Tiii), 0), (174, .fnu, 0), (177, Tsiii, 0), (180, TsiSSi, 0), (186, (.ptr Tiii), 0), (189, (.ptr Tsii), 0), (193, TsiSSi, 0), (232, (.ptr Tsii), 0), (234, (.ptr Tsiii), 0), (237, (.ptr Tsiiiiii), 0), (240, Tsiiiiii, 0), (244, (.ptr TsiSSi), 0), (255, .fnu, 0), (260, (.int .u64), 0), (263, .fnu, 0), (275, (.ptr Tsiii), 0), (280, .fnu, 0), (307, .fnu, 0)]
/-- loop.example/g01021/laws.szAirway -/
def laws_szAirway (F : Nat) (x0 : El Tsiiiiii) (x1 : El (.int .i64)) : Option (Outs [((.int .i64), .no)]) :=
  cond (decide ((IntKind.i64.wrap (x1 - (x0.1.size : Int))) < (0 : Int))) (some ((-1 : Int), ())) (some (IntKind.i64.wrap (x1 - (x0.1.size : Int)), ()))
abbrev laws_szAirwayS_l0s : List Sh := [.val (.sl Tsiiiiii) .no, .val (.int .i64) .no, .dead, .dead, .dead, .val (.int .i64) .no, .dead, .dead, .dead, .dead, .dead, .dead, .dead, .dead, .dead, .dead, .dead, .dead, .dead, .dead, .dead, .dead, .dead, .dead, .dead, .dead, .dead]
abbrev laws_szAirwayS_l0o : List (Ex × List Sh) := [(.ret, [.dead, .dead, .dead, .dead, .val (.int .i64) .no, .dead, .dead, .dead, .dead, .dead, .dead, .dead, .dead, .dead, .dead, .dead, .dead, .dead, .dead, .dead, .dead, .dead, .dead, .dead, .dead, .dead, .dead]), (.exit 0, [.dead, .val (.int .i64) .no, .dead, .dead, .dead, .dead, .dead, .dead, .dead, .dead, .dead, .dead, .dead, .dead, .dead, .dead, .dead, .dead, .dead, .dead, .dead, .dead, .dead, .dead, .dead, .dead, .dead])]
def laws_szAirwayS_l0_step {β : Type} (F : Nat) (k0 : El (.int .i64) × Unit → Option β) (k1 : El (.int .i64) × Unit → Option β) (rec : El (.sl Tsiiiiii) × El (.int .i64) × El (.int .i64) × Unit → Option β) (x : El (.sl Tsiiiiii) × El (.int .i64) × El (.int .i64) × Unit) : Option β :=
  cond (decide (x.2.2.1 < (x.1.length : Int))) (obind (rdAt x.1 x.2.2.1) fun v1 => obind (laws_szAirway F v1 x.2.1) fun r2 => cond (decide (r2.1 < (0 : Int))) (k0 ((-1 : Int), ())) (rec (x.1, r2.1, IntKind.i64.wrap (x.2.2.1 + (1 : Int)), ()))) (k1 (x.2.1, ()))
def laws_szAirwayS_l0 (F : Nat) : LoopFn where
  n := 27
  sh := laws_szAirwayS_l0s
  outs := laws_szAirwayS_l0o
  es := [.ret, .exit 0]
  step := fun rec K x => laws_szAirwayS_l0_step F K.1 K.2.1 rec x
/-- loop.example/g01021/laws.szAirwayS -/
def laws_szAirwayS (F : Nat) (x0 : El (.sl Tsiiiiii)) (x1 : El (.int .i64)) : Option (Outs [((.int .i64), .no)]) :=
  cond (decide ((IntKind.i64.wrap (x1 - (x0.length : Int))) < (0 : Int))) (some ((-1 : Int), ())) (runP (laws_szAirwayS_l0_step F (fun y3 => some (y3.1, ())) (fun y3 => some (y3.1, ()))) none F (x0, IntKind.i64.wrap (x1 - (x0.length : Int)), (0 : Int), ()))
/-- loop.example/g01021/laws.szMine -/
def laws_szMine (F : Nat) (x0 : El TiSqsiiiiiip) (x1 : El (.int .i64)) : Option (Outs [((.int .i64), .no)]) :=
  obind (laws_szAirwayS F x0.2.1 x1) fun r1 => cond (decide (r1.1 < (0 : Int))) (some ((-1 : Int), ())) (some (r1.1, ()))
/-- loop.example/g01021/laws.szDoor -/
def laws_szDoor (F : Nat) (x0 : El Tsiii) (x1 : El (.int .i64)) : Option (Outs [((.int .i64), .no)]) :=
  cond (decide ((IntKind.i64.wrap (x1 - (x0.1.size : Int))) < (0 : Int))) (some ((-1 : Int), ())) (some (IntKind.i64.wrap (x1 - (x0.1.size : Int)), ()))
abbrev laws_szDoorS_l0s : List Sh := [.val (.sl Tsiii) .no, .val (.int .i64) .no, .dead, .dead, .dead, .val (.int .i64) .no, .dead, .dead, .dead, .dead, .dead, .dead, .dead, .dead, .dead, .dead, .dead, .dead, .dead, .dead, .dead, .dead, .dead, .dead, .dead, .dead, .dead]
abbrev laws_szDoorS_l0o : List (Ex × List Sh) := [(.ret, [.dead, .dead, .dead, .dead, .val (.int .i64) .no, .dead, .dead, .dead, .dead, .dead, .dead, .dead, .dead, .dead, .dead, .dead, .dead, .dead, .dead, .dead, .dead, .dead, .dead, .dead, .dead, .dead, .dead]), (.exit 0, [.dead, .val (.int .i64) .no, .dead, .dead, .dead, .dead, .dead, .dead, .dead, .dead, .dead, .dead, .dead, .dead, .dead, .dead, .dead, .dead, .dead, .dead, .dead, .dead, .dead, .dead, .dead, .dead, .dead])]
def laws_szDoorS_l0_step {β : Type} (F : Nat) (k0 : El (.int .i64) × Unit → Option β) (k1 : El (.int .i64) × Unit → Option β) (rec : El (.sl Tsiii) × El (.int .i64) × El (.int .i64) × Unit → Option β) (x : El (.sl Tsiii) × El (.int .i64) × El (.int .i64) × Unit) : Option β :=
  cond (decide (x.2.2.1 < (x.1.length : Int))) (obind (rdAt x.1 x.2.2.1) fun v1 => obind (laws_szDoor F v1 x.2.1) fun r2 => cond (decide (r2.1 < (0 : Int))) (k0 ((-1 : Int), ())) (rec (x.1, r2.1, IntKind.i64.wrap (x.2.2.1 + (1 : Int)), ()))) (k1 (x.2.1, ()))
def laws_szDoorS_l0 (F : Nat) : LoopFn where
  n := 27
  sh := laws_szDoorS_l0s
  outs := laws_szDoorS_l0o
  es := [.ret, .exit 0]
  step := fun rec K x => laws_szDoorS_l0_step F K.1 K.2.1 rec x
/-- loop.example/g01021/laws.szDoorS -/
def laws_szDoorS (F : Nat) (x0 : El (.sl Tsiii)) (x1 : El (.int .i64)) : Option (Outs [((.int .i64), .no)]) :=
  cond (decide ((IntKind.i64.wrap (x1 - (x0.length : Int))) < (0 : Int))) (some ((-1 : Int), ())) (runP (laws_szDoorS_l0_step F (fun y3 => some (y3.1, ())) (fun y3 => some (y3.1, ()))) none F (x0, IntKind.i64.wrap (x1 - (x0.length : Int)), (0 : Int), ()))
/-- loop.example/g01021/laws.szInt64S -/
def laws_szInt64S (F : Nat) (x0 : El (.sl (.int .i64))) (x1 : El (.int .i64)) : Option (Outs [((.int .i64), .no)]) :=
  cond (decide ((IntKind.i64.wrap (x1 - (x0.length : Int))) < (0 : Int))) (some ((-1 : Int), ())) (some (IntKind.i64.wrap (x1 - (x0.length : Int)), ()))
abbrev laws_szInt64SS_l0s : List Sh := [.val (.sl (.sl (.int .i64))) .no, .val (.int .i64) .no, .dead, .dead, .dead, .val (.int .i64) .no, .dead, .dead, .dead, .dead, .dead, .dead, .dead, .dead, .dead, .dead, .dead, .dead, .dead, .dead, .dead, .dead, .dead, .dead, .dead, .dead, .dead]
abbrev laws_szInt64SS_l0o : List (Ex × List Sh) := [(.ret, [.dead, .dead, .dead, .dead, .val (.int .i64) .no, .dead, .dead, .dead, .dead, .dead, .dead, .dead, .dead, .dead, .dead, .dead, .dead, .dead, .dead, .dead, .dead, .dead, .dead, .dead, .dead, .dead, .dead]), (.exit 0, [.dead, .val (.int .i64) .no, .dead, .dead, .dead, .dead, .dead, .dead, .dead, .dead, .dead, .dead, .dead, .dead, .dead, .dead, .dead, .dead, .dead, .dead, .dead, .dead, .dead, .dead, .dead, .dead, .dead])]
def laws_szInt64SS_l0_step {β : Type} (F : Nat) (k0 : El (.int .i64) × Unit → Option β) (k1 : El (.int .i64) × Unit → Option β) (rec : El (.sl (.sl (.int .i64))) × El (.int .i64) × El (.int .i64) × Unit → Option β) (x : El (.sl (.sl (.int .i64))) × El (.int .i64) × El (.int .i64) × Unit) : Option β :=
  cond (decide (x.2.2.1 < (x.1.length : Int))) (obind (rdAt x.1 x.2.2.1) fun v1 => obind (laws_szInt64S F v1 x.2.1) fun r2 => cond (decide (r2.1 < (0 : Int))) (k0 ((-1 : Int), ())) (rec (x.1, r2.1, IntKind.i64.wrap (x.2.2.1 + (1 : Int)), ()))) (k1 (x.2.1, ()))
def laws_szInt64SS_l0 (F : Nat) : LoopFn where
  n := 27
  sh := laws_szInt64SS_l0s
  outs := laws_szInt64SS_l0o
  es := [.ret, .exit 0]
  step := fun rec K x => laws_szInt64SS_l0_step F K.1 K.2.1 rec x
/-- loop.example/g01021/laws.szInt64SS -/
def laws_szInt64SS (F : Nat) (x0 : El (.sl (.sl (.int .i64)))) (x1 : El (.int .i64)) : Option (Outs [((.int .i64), .no)]) :=
  cond (decide ((IntKind.i64.wrap (x1 - (x0.length : Int))) < (0 : Int))) (some ((-1 : Int), ())) (runP (laws_szInt64SS_l0_step F (fun y3 => some (y3.1, ())) (fun y3 => some (y3.1, ()))) none F (x0, IntKind.i64.wrap (x1 - (x0.length : Int)), (0 : Int), ()))
/-- loop.example/g01021/laws.szFan -/
def laws_szFan (F : Nat) (x0 : El TsiSSi) (x1 : El (.int .i64)) : Option (Outs [((.int .i64), .no)]) :=
  cond (decide ((IntKind.i64.wrap (x1 - (x0.1.size : Int))) < (0 : Int))) (some ((-1 : Int), ())) (obind (laws_szInt64SS F x0.2.2.1 (IntKind.i64.wrap (x1 - (x0.1.size : Int)))) fun r1 => cond (decide (r1.1 < (0 : Int))) (some ((-1 : Int), ())) (some (r1.1, ())))
abbrev laws_szFanS_l0s : List Sh := [.val (.sl TsiSSi) .no, .val (.int .i64) .no, .dead, .dead, .dead, .val (.int .i64) .no, .dead, .dead, .dead, .dead, .dead, .dead, .dead, .dead, .dead, .dead, .dead, .dead, .dead, .dead, .dead, .dead, .dead, .dead, .dead, .dead, .dead]
abbrev laws_szFanS_l0o : List (Ex × List Sh) := [(.ret, [.dead, .dead, .dead, .dead, .val (.int .i64) .no, .dead, .dead, .dead, .dead, .dead, .dead, .dead, .dead, .dead, .dead, .dead, .dead, .dead, .dead, .dead, .dead, .dead, .dead, .dead, .dead, .dead, .dead]), (.exit 0, [.dead, .val (.int .i64) .no, .dead, .dead, .dead, .dead, .dead, .dead, .dead, .dead, .dead, .dead, .dead, .dead, .dead, .dead, .dead, .dead, .dead, .dead, .dead, .dead, .dead, .dead, .dead, .dead, .dead])]
def laws_szFanS_l0_step {β : Type} (F : Nat) (k0 : El (.int .i64) × Unit → Option β) (k1 : El (.int .i64) × Unit → Option β) (rec : El (.sl TsiSSi) × El (.int .i64) × El (.int .i64) × Unit → Option β) (x : El (.sl TsiSSi) × El (.int .i64) × El (.int .i64) × Unit) : Option β :=
  cond (decide (x.2.2.1 < (x.1.length : Int))) (obind (rdAt x.1 x.2.2.1) fun v1 => obind (laws_szFan F v1 x.2.1) fun r2 => cond (decide (r2.1 < (0 : Int))) (k0 ((-1 : Int), ())) (rec (x.1, r2.1, IntKind.i64.wrap (x.2.2.1 + (1 : Int)), ()))) (k1 (x.2.1, ()))
def laws_szFanS_l0 (F : Nat) : LoopFn where
  n := 27
  sh := laws_szFanS_l0s
  outs := laws_szFanS_l0o
  es := [.ret, .exit 0]
  step := fun rec K x => laws_szFanS_l0_step F K.1 K.2.1 rec x
/-- loop.example/g01021/laws.szFanS -/
def laws_szFanS (F : Nat) (x0 : El (.sl TsiSSi)) (x1 : El (.int .i64)) : Option (Outs [((.int .i64), .no)]) :=
  cond (decide ((IntKind.i64.wrap (x1 - (x0.length : Int))) < (0 : Int))) (some ((-1 : Int), ())) (runP (laws_szFanS_l0_step F (fun y3 => some (y3.1, ())) (fun y3 => some (y3.1, ()))) none F (x0, IntKind.i64.wrap (x1 - (x0.length : Int)), (0 : Int), ()))
/-- loop.example/g01021/laws.szPlant -/
def laws_szPlant (F : Nat) (x0 : El T9444c66c) (x1 : El (.int .i64)) : Option (Outs [((.int .i64), .no)]) :=
  obind (laws_szMine F x0.1 x1) fun r1 => cond (decide (r1.1 < (0 : Int))) (some ((-1 : Int), ())) (obind (laws_szDoorS F x0.2.1 r1.1) fun r2 => cond (decide (r2.1 < (0 : Int))) (some ((-1 : Int), ())) (obind (laws_szInt64SS F x0.2.2.1 r2.1) fun r3 => cond (decide (r3.1 < (0 : Int))) (some ((-1 : Int), ())) (obind (laws_szFanS F x0.2.2.2.1 r3.1) fun r4 => cond (decide (r4.1 < (0 : Int))) (some ((-1 : Int), ())) (obind (laws_szInt64S F x0.2.2.2.2.1 r4.1) fun r5 => cond (decide (r5.1 < (0 : Int))) (some ((-1 : Int), ())) (some (r5.1, ()))))))
/-- loop.example/g01021/laws.szBoolS -/
def laws_szBoolS (F : Nat) (x0 : El (.sl .bool)) (x1 : El (.int .i64)) : Option (Outs [((.int .i64), .no)]) :=
  cond (decide ((IntKind.i64.wrap (x1 - (x0.length : Int))) < (0 : Int))) (some ((-1 : Int), ())) (some (IntKind.i64.wrap (x1 - (x0.length : Int)), ()))
/-- loop.example/g01021/laws.szWantS -/
def laws_szWantS (F : Nat) (x0 : El (.sl Tiii)) (x1 : El (.int .i64)) : Option (Outs [((.int .i64), .no)]) :=
  cond (decide ((IntKind.i64.wrap (x1 - (x0.length : Int))) < (0 : Int))) (some ((-1 : Int), ())) (some (IntKind.i64.wrap (x1 - (x0.length : Int)), ()))
/-- loop.example/g01021/laws.szSource -/
def laws_szSource (F : Nat) (x0 : El Tsii) (x1 : El (.int .i64)) : Option (Outs [((.int .i64), .no)]) :=
  cond (decide ((IntKind.i64.wrap (x1 - (x0.1.size : Int))) < (0 : Int))) (some ((-1 : Int), ())) (some (IntKind.i64.wrap (x1 - (x0.1.size : Int)), ()))
abbrev laws_szSourceS_l0s : List Sh := [.val (.sl Tsii) .no, .val (.int .i64) .no, .dead, .dead, .dead, .val (.int .i64) .no, .dead, .dead, .dead, .dead, .dead, .dead, .dead, .dead, .dead, .dead, .dead, .dead, .dead, .dead, .dead, .dead, .dead, .dead, .dead, .dead, .dead]
abbrev laws_szSourceS_l0o : List (Ex × List Sh) := [(.ret, [.dead, .dead, .dead, .dead, .val (.int .i64) .no, .dead, .dead, .dead, .dead, .dead, .dead, .dead, .dead, .dead, .dead, .dead, .dead, .dead, .dead, .dead, .dead, .dead, .dead, .dead, .dead, .dead, .dead]), (.exit 0, [.dead, .val (.int .i64) .no, .dead, .dead, .dead, .dead, .dead, .dead, .dead, .dead, .dead, .dead, .dead, .dead, .dead, .dead, .dead, .dead, .dead, .dead, .dead, .dead, .dead, .dead, .dead, .dead, .dead])]
def laws_szSourceS_l0_step {β : Type} (F : Nat) (k0 : El (.int .i64) × Unit → Option β) (k1 : El (.int .i64) × Unit → Option β) (rec : El (.sl Tsii) × El (.int .i64) × El (.int .i64) × Unit → Option β) (x : El (.sl Tsii) × El (.int .i64) × El (.int .i64) × Unit) : Option β :=
  cond (decide (x.2.2.1 < (x.1.length : Int))) (obind (rdAt x.1 x.2.2.1) fun v1 => obind (laws_szSource F v1 x.2.1) fun r2 => cond (decide (r2.1 < (0 : Int))) (k0 ((-1 : Int), ())) (rec (x.1, r2.1, IntKind.i64.wrap (x.2.2.1 + (1 : Int)), ()))) (k1 (x.2.1, ()))
def laws_szSourceS_l0 (F : Nat) : LoopFn where
  n := 27
  sh := laws_szSourceS_l0s
  outs := laws_szSourceS_l0o
  es := [.ret, .exit 0]
  step := fun rec K x => laws_szSourceS_l0_step F K.1 K.2.1 rec x
/-- loop.example/g01021/laws.szSourceS -/
def laws_szSourceS (F : Nat) (x0 : El (.sl Tsii)) (x1 : El (.int .i64)) : Option (Outs [((.int .i64), .no)]) :=
  cond (decide ((IntKind.i64.wrap (x1 - (x0.length : Int))) < (0 : Int))) (some ((-1 : Int), ())) (runP (laws_szSourceS_l0_step F (fun y3 => some (y3.1, ())) (fun y3 => some (y3.1, ()))) none F (x0, IntKind.i64.wrap (x1 - (x0.length : Int)), (0 : Int), ()))
/-- loop.example/g01021/laws.szJob -/
def laws_szJob (F : Nat) (x0 : El Tsiii) (x1 : El (.int .i64)) : Option (Outs [((.int .i64), .no)]) :=
  cond (decide ((IntKind.i64.wrap (x1 - (x0.1.size : Int))) < (0 : Int))) (some ((-1 : Int), ())) (some (IntKind.i64.wrap (x1 - (x0.1.size : Int)), ()))
abbrev laws_szJobS_l0s : List Sh := [.val (.sl Tsiii) .no, .val (.int .i64) .no, .dead, .dead, .dead, .val (.int .i64) .no, .dead, .dead, .dead, .dead, .dead, .dead, .dead, .dead, .dead, .dead, .dead, .dead, .dead, .dead, .dead, .dead, .dead, .dead, .dead, .dead, .dead]
abbrev laws_szJobS_l0o : List (Ex × List Sh) := [(.ret, [.dead, .dead, .dead, .dead, .val (.int .i64) .no, .dead, .dead, .dead, .dead, .dead, .dead, .dead, .dead, .dead, .dead, .dead, .dead, .dead, .dead, .dead, .dead, .dead, .dead, .dead, .dead, .dead, .dead]), (.exit 0, [.dead, .val (.int .i64) .no, .dead, .dead, .dead, .dead, .dead, .dead, .dead, .dead, .dead, .dead, .dead, .dead, .dead, .dead, .dead, .dead, .dead, .dead, .dead, .dead, .dead, .dead, .dead, .dead, .dead])]
def laws_szJobS_l0_step {β : Type} (F : Nat) (k0 : El (.int .i64) × Unit → Option β) (k1 : El (.int .i64) × Unit → Option β) (rec : El (.sl Tsiii) × El (.int .i64) × El (.int .i64) × Unit → Option β) (x : El (.sl Tsiii) × El (.int .i64) × El (.int .i64) × Unit) : Option β :=
  cond (decide (x.2.2.1 < (x.1.length : Int))) (obind (rdAt x.1 x.2.2.1) fun v1 => obind (laws_szJob F v1 x.2.1) fun r2 => cond (decide (r2.1 < (0 : Int))) (k0 ((-1 : Int), ())) (rec (x.1, r2.1, IntKind.i64.wrap (x.2.2.1 + (1 : Int)), ()))) (k1 (x.2.1, ()))
def laws_szJobS_l0 (F : Nat) : LoopFn where
  n := 27
  sh := laws_szJobS_l0s
  outs := laws_szJobS_l0o
  es := [.ret, .exit 0]
  step := fun rec K x => laws_szJobS_l0_step F K.1 K.2.1 rec x
/-- loop.example/g01021/laws.szJobS -/
def laws_szJobS (F : Nat) (x0 : El (.sl Tsiii)) (x1 : El (.int .i64)) : Option (Outs [((.int .i64), .no)]) :=
  cond (decide ((IntKind.i64.wrap (x1 - (x0.length : Int))) < (0 : Int))) (some ((-1 : Int), ())) (runP (laws_szJobS_l0_step F (fun y3 => some (y3.1, ())) (fun y3 => some (y3.1, ()))) none F (x0, IntKind.i64.wrap (x1 - (x0.length : Int)), (0 : Int), ()))
/-- loop.example/g01021/laws.szCrew -/
def laws_szCrew (F : Nat) (x0 : El Tsii) (x1 : El (.int .i64)) : Option (Outs [((.int .i64), .no)]) :=
  cond (decide ((IntKind.i64.wrap (x1 - (x0.1.size : Int))) < (0 : Int))) (some ((-1 : Int), ())) (some (IntKind.i64.wrap (x1 - (x0.1.size : Int)), ()))
abbrev laws_szCrewS_l0s : List Sh := [.val (.sl Tsii) .no, .val (.int .i64) .no, .dead, .dead, .dead, .val (.int .i64) .no, .dead, .dead, .dead, .dead, .dead, .dead, .dead, .dead, .dead, .dead, .dead, .dead, .dead, .dead, .dead, .dead, .dead, .dead, .dead, .dead, .dead]
abbrev laws_szCrewS_l0o : List (Ex × List Sh) := [(.ret, [.dead, .dead, .dead, .dead, .val (.int .i64) .no, .dead, .dead, .dead, .dead, .dead, .dead, .dead, .dead, .dead, .dead, .dead, .dead, .dead, .dead, .dead, .dead, .dead, .dead, .dead, .dead, .dead, .dead]), (.exit 0, [.dead, .val (.int .i64) .no, .dead, .dead, .dead, .dead, .dead, .dead, .dead, .dead, .dead, .dead, .dead, .dead, .dead, .dead, .dead, .dead, .dead, .dead, .dead, .dead, .dead, .dead, .dead, .dead, .dead])]
def laws_szCrewS_l0_step {β : Type} (F : Nat) (k0 : El (.int .i64) × Unit → Option β) (k1 : El (.int .i64) × Unit → Option β) (rec : El (.sl Tsii) × El (.int .i64) × El (.int .i64) × Unit → Option β) (x : El (.sl Tsii) × El (.int .i64) × El (.int .i64) × Unit) : Option β :=
  cond (decide (x.2.2.1 < (x.1.length : Int))) (obind (rdAt x.1 x.2.2.1) fun v1 => obind (laws_szCrew F v1 x.2.1) fun r2 => cond (decide (r2.1 < (0 : Int))) (k0 ((-1 : Int), ())) (rec (x.1, r2.1, IntKind.i64.wrap (x.2.2.1 + (1 : Int)), ()))) (k1 (x.2.1, ()))
def laws_szCrewS_l0 (F : Nat) : LoopFn where
  n := 27
  sh := laws_szCrewS_l0s
  outs := laws_szCrewS_l0o
  es := [.ret, .exit 0]
  step := fun rec K x => laws_szCrewS_l0_step F K.1 K.2.1 rec x
/-- loop.example/g01021/laws.szCrewS -/
def laws_szCrewS (F : Nat) (x0 : El (.sl Tsii)) (x1 : El (.int .i64)) : Option (Outs [((.int .i64), .no)]) :=
  cond (decide ((IntKind.i64.wrap (x1 - (x0.length : Int))) < (0 : Int))) (some ((-1 : Int), ())) (runP (laws_szCrewS_l0_step F (fun y3 => some (y3.1, ())) (fun y3 => some (y3.1, ()))) none F (x0, IntKind.i64.wrap (x1 - (x0.length : Int)), (0 : Int), ()))
/-- loop.example/g01021/laws.szPlan -/
def laws_szPlan (F : Nat) (x0 : El Tc66acf8c) (x1 : El (.int .i64)) : Option (Outs [((.int .i64), .no)]) :=
  obind (laws_szPlant F x0.1 x1) fun r1 => cond (decide (r1.1 < (0 : Int))) (some ((-1 : Int), ())) (obind (laws_szBoolS F x0.2.1 r1.1) fun r2 => cond (decide (r2.1 < (0 : Int))) (some ((-1 : Int), ())) (obind (laws_szInt64S F x0.2.2.1 r2.1) fun r3 => cond (decide (r3.1 < (0 : Int))) (some ((-1 : Int), ())) (obind (laws_szWantS F x0.2.2.2.1 r3.1) fun r4 => cond (decide (r4.1 < (0 : Int))) (some ((-1 : Int), ())) (obind (laws_szSourceS F x0.2.2.2.2.1 r4.1) fun r5 => cond (decide (r5.1 < (0 : Int))) (some ((-1 : Int), ())) (obind (laws_szJobS F x0.2.2.2.2.2.2.1 r5.1) fun r6 => cond (decide (r6.1 < (0 : Int))) (some ((-1 : Int), ())) (obind (laws_szCrewS F x0.2.2.2.2.2.2.2.1 r6.1) fun r7 => cond (decide (r7.1 < (0 : Int))) (some ((-1 : Int), ())) (obind (laws_szInt64S F x0.2.2.2.2.2.2.2.2.1 r7.1) fun r8 => cond (decide (r8.1 < (0 : Int))) (some ((-1 : Int), ())) (some (r8.1, ())))))))))
/-- loop.example/g01021/laws.toAirway -/
def laws_toAirway (F : Nat) (x0 : El Tsiiiiii) : Option (Outs [(Tsiiiiii, (.pr .no (.pr .no (.pr .no (.pr .no (.pr .no (.pr .no (.pr .no .no))))))))]) :=
  some ((x0.1, (x0.2.1, (x0.2.2.1, (x0.2.2.2.1, (x0.2.2.2.2.1, (x0.2.2.2.2.2.1, (x0.2.2.2.2.2.2.1, ()))))))), ())
abbrev laws_toAirwayS_l0s : List Sh := [.val (.sl Tsiiiiii) .no, .dead, .dead, .val (.sl Tsiiiiii) (.own none .no), .val (.int .i64) .no, .dead, .dead, .dead, .dead, .dead, .dead, .dead, .dead, .dead, .dead, .dead, .dead, .dead, .dead, .dead, .dead, .dead, .dead]
abbrev laws_toAirwayS_l0o : List (Ex × List Sh) := [(.exit 0, [.dead, .dead, .dead, .val (.sl Tsiiiiii) (.own none .no), .dead, .dead, .dead, .dead, .dead, .dead, .dead, .dead, .dead, .dead, .dead, .dead, .dead, .dead, .dead, .dead, .dead, .dead, .dead])]
def laws_toAirwayS_l0_step {β : Type} (F : Nat) (k0 : El (.sl Tsiiiiii) × Unit → Option β) (rec : El (.sl Tsiiiiii) × El (.sl Tsiiiiii) × El (.int .i64) × Unit → Option β) (x : El (.sl Tsiiiiii) × El (.sl Tsiiiiii) × El (.int .i64) × Unit) : Option β :=
  cond (decide (x.2.2.1 < (x.1.length : Int))) (obind (rdAt x.1 x.2.2.1) fun v1 => obind (laws_toAirway F v1) fun r2 => obind (rdAt x.2.1 x.2.2.1) fun v3 => rec (x.1, x.2.1.set x.2.2.1.toNat r2.1, IntKind.i64.wrap (x.2.2.1 + (1 : Int)), ())) (k0 (x.2.1, ()))
def laws_toAirwayS_l0 (F : Nat) : LoopFn where
  n := 23
  sh := laws_toAirwayS_l0s
  outs := laws_toAirwayS_l0o
  es := [.exit 0]
  step := fun rec K x => laws_toAirwayS_l0_step F K.1 rec x
/-- loop.example/g01021/laws.toAirwayS -/
def laws_toAirwayS (F : Nat) (x0 : El (.sl Tsiiiiii)) : Option (Outs [((.sl Tsiiiiii), (.own none (.pr .no (.pr .no (.pr .no (.pr .no (.pr .no (.pr .no (.pr .no .no)))))))))]) :=
  guardB (decide ((0 : Int) ≤ (x0.length : Int))) (guardB (decide ((x0.length : Int) ≤ (x0.length : Int))) (guardB (decide ((x0.length : Int) * (64 : Int) ≤ 281474976710656)) (guardB (decide ((x0.length : Int) ≤ 9223372036854775807)) (runP (laws_toAirwayS_l0_step F (fun y4 => some (y4.1, ()))) none F (x0, List.replicate (x0.length : Int).toNat ((⟨#[]⟩ : ByteArray), ((0 : Int), ((0 : Int), ((0 : Int), ((0 : Int), ((0 : Int), ((0 : Int), ()))))))), (0 : Int), ())))))
/-- loop.example/g01021/laws.toMine -/
def laws_toMine (F : Nat) (x0 : El TiSqsiiiiiip) : Option (Outs [(TiSqsiiiiiip, (.pr .no (.pr (.own none (.pr .no (.pr .no (.pr .no (.pr .no (.pr .no (.pr .no (.pr .no .no)))))))) .no)))]) :=
  obind (laws_toAirwayS F x0.2.1) fun r1 => some ((x0.1, (r1.1, ())), ())
/-- loop.example/g01021/laws.toDoor -/
def laws_toDoor (F : Nat) (x0 : El Tsiii) : Option (Outs [(Tsiii, (.pr .no (.pr .no (.pr .no (.pr .no .no)))))]) :=
  some ((x0.1, (x0.2.1, (x0.2.2.1, (x0.2.2.2.1, ())))), ())
abbrev laws_toDoorS_l0s : List Sh := [.val (.sl Tsiii) .no, .dead, .dead, .val (.sl Tsiii) (.own none .no), .val (.int .i64) .no, .dead, .dead, .dead, .dead, .dead, .dead, .dead, .dead, .dead, .dead, .dead, .dead, .dead, .dead, .dead, .dead, .dead, .dead]
abbrev laws_toDoorS_l0o : List (Ex × List Sh) := [(.exit 0, [.dead, .dead, .dead, .val (.sl Tsiii) (.own none .no), .dead, .dead, .dead, .dead, .dead, .dead, .dead, .dead, .dead, .dead, .dead, .dead, .dead, .dead, .dead, .dead, .dead, .dead, .dead])]
def laws_toDoorS_l0_step {β : Type} (F : Nat) (k0 : El (.sl Tsiii) × Unit → Option β) (rec : El (.sl Tsiii) × El (.sl Tsiii) × El (.int .i64) × Unit → Option β) (x : El (.sl Tsiii) × El (.sl Tsiii) × El (.int .i64) × Unit) : Option β :=
  cond (decide (x.2.2.1 < (x.1.length : Int))) (obind (rdAt x.1 x.2.2.1) fun v1 => obind (laws_toDoor F v1) fun r2 => obind (rdAt x.2.1 x.2.2.1) fun v3 => rec (x.1, x.2.1.set x.2.2.1.toNat r2.1, IntKind.i64.wrap (x.2.2.1 + (1 : Int)), ())) (k0 (x.2.1, ()))
def laws_toDoorS_l0 (F : Nat) : LoopFn where
  n := 23
  sh := laws_toDoorS_l0s
  outs := laws_toDoorS_l0o
  es := [.exit 0]
  step := fun rec K x => laws_toDoorS_l0_step F K.1 rec x
/-- loop.example/g01021/laws.toDoorS -/
def laws_toDoorS (F : Nat) (x0 : El (.sl Tsiii)) : Option (Outs [((.sl Tsiii), (.own none (.pr .no (.pr .no (.pr .no (.pr .no .no))))))]) :=
  guardB (decide ((0 : Int) ≤ (x0.length : Int))) (guardB (decide ((x0.length : Int) ≤ (x0.length : Int))) (guardB (decide ((x0.length : Int) * (40 : Int) ≤ 281474976710656)) (guardB (decide ((x0.length : Int) ≤ 9223372036854775807)) (runP (laws_toDoorS_l0_step F (fun y4 => some (y4.1, ()))) none F (x0, List.replicate (x0.length : Int).toNat ((⟨#[]⟩ : ByteArray), ((0 : Int), ((0 : Int), ((0 : Int), ())))), (0 : Int), ())))))
abbrev laws_toInt64S_l0s : List Sh := [.val (.sl (.int .i64)) .no, .dead, .dead, .val (.sl (.int .i64)) (.own none .no), .val (.int .i64) .no, .dead, .dead, .dead, .dead, .dead, .dead, .dead, .dead, .dead, .dead, .dead, .dead, .dead, .dead, .dead, .dead, .dead]
abbrev laws_toInt64S_l0o : List (Ex × List Sh) := [(.exit 0, [.dead, .dead, .dead, .val (.sl (.int .i64)) (.own none .no), .dead, .dead, .dead, .dead, .dead, .dead, .dead, .dead, .dead, .dead, .dead, .dead, .dead, .dead, .dead, .dead, .dead, .dead])]
def laws_toInt64S_l0_step {β : Type} (F : Nat) (k0 : El (.sl (.int .i64)) × Unit → Option β) (rec : El (.sl (.int .i64)) × El (.sl (.int .i64)) × El (.int .i64) × Unit → Option β) (x : El (.sl (.int .i64)) × El (.sl (.int .i64)) × El (.int .i64) × Unit) : Option β :=
  cond (decide (x.2.2.1 < (x.1.length : Int))) (obind (rdAt x.1 x.2.2.1) fun v1 => obind (rdAt x.2.1 x.2.2.1) fun v2 => rec (x.1, x.2.1.set x.2.2.1.toNat v1, IntKind.i64.wrap (x.2.2.1 + (1 : Int)), ())) (k0 (x.2.1, ()))
def laws_toInt64S_l0 (F : Nat) : LoopFn where
  n := 22
  sh := laws_toInt64S_l0s
  outs := laws_toInt64S_l0o
  es := [.exit 0]
  step := fun rec K x => laws_toInt64S_l0_step F K.1 rec x
/-- loop.example/g01021/laws.toInt64S -/
def laws_toInt64S (F : Nat) (x0 : El (.sl (.int .i64))) : Option (Outs [((.sl (.int .i64)), (.own none .no))]) :=
  guardB (decide ((0 : Int) ≤ (x0.length : Int))) (guardB (decide ((x0.length : Int) ≤ (x0.length : Int))) (guardB (decide ((x0.length : Int) * (8 : Int) ≤ 281474976710656)) (guardB (decide ((x0.length : Int) ≤ 9223372036854775807)) (runP (laws_toInt64S_l0_step F (fun y3 => some (y3.1, ()))) none F (x0, List.replicate (x0.length : Int).toNat (0 : Int), (0 : Int), ())))))
abbrev laws_toInt64SS_l0s : List Sh := [.val (.sl (.sl (.int .i64))) .no, .dead, .dead, .val (.sl (.sl (.int .i64))) (.own none (.own none .no)), .val (.int .i64) .no, .dead, .dead, .dead, .dead, .dead, .dead, .dead, .dead, .dead, .dead, .dead, .dead, .dead, .dead, .dead, .dead, .dead, .dead]
abbrev laws_toInt64SS_l0o : List (Ex × List Sh) := [(.exit 0, [.dead, .dead, .dead, .val (.sl (.sl (.int .i64))) (.own none (.own none .no)), .dead, .dead, .dead, .dead, .dead, .dead, .dead, .dead, .dead, .dead, .dead, .dead, .dead, .dead, .dead, .dead, .dead, .dead, .dead])]
def laws_toInt64SS_l0_step {β : Type} (F : Nat) (k0 : El (.sl (.sl (.int .i64))) × Unit → Option β) (rec : El (.sl (.sl (.int .i64))) × El (.sl (.sl (.int .i64))) × El (.int .i64) × Unit → Option β) (x : El (.sl (.sl (.int .i64))) × El (.sl (.sl (.int .i64))) × El (.int .i64) × Unit) : Option β :=
  cond (decide (x.2.2.1 < (x.1.length : Int))) (obind (rdAt x.1 x.2.2.1) fun v1 => obind (laws_toInt64S F v1) fun r2 => obind (rdAt x.2.1 x.2.2.1) fun v3 => rec (x.1, x.2.1.set x.2.2.1.toNat r2.1, IntKind.i64.wrap (x.2.2.1 + (1 : Int)), ())) (k0 (x.2.1, ()))
def laws_toInt64SS_l0 (F : Nat) : LoopFn where
  n := 23
  sh := laws_toInt64SS_l0s
  outs := laws_toInt64SS_l0o
  es := [.exit 0]
  step := fun rec K x => laws_toInt64SS_l0_step F K.1 rec x
/-- loop.example/g01021/laws.toInt64SS -/
def laws_toInt64SS (F : Nat) (x0 : El (.sl (.sl (.int .i64)))) : Option (Outs [((.sl (.sl (.int .i64))), (.own none (.own none .no)))]) :=
  guardB (decide ((0 : Int) ≤ (x0.length : Int))) (guardB (decide ((x0.length : Int) ≤ (x0.length : Int))) (guardB (decide ((x0.length : Int) * (24 : Int) ≤ 281474976710656)) (guardB (decide ((x0.length : Int) ≤ 9223372036854775807)) (runP (laws_toInt64SS_l0_step F (fun y4 => some (y4.1, ()))) none F (x0, List.replicate (x0.length : Int).toNat ([]), (0 : Int), ())))))
/-- loop.example/g01021/laws.toFan -/
def laws_toFan (F : Nat) (x0 : El TsiSSi) : Option (Outs [(TsiSSi, (.pr .no (.pr .no (.pr (.own none (.own none .no)) .no))))]) :=
  obind (laws_toInt64SS F x0.2.2.1) fun r1 => some ((x0.1, (x0.2.1, (r1.1, ()))), ())
abbrev laws_toFanS_l0s : List Sh := [.val (.sl TsiSSi) .no, .dead, .dead, .val (.sl TsiSSi) (.own none (.pr .no (.pr .no (.pr (.own none (.own none .no)) .no)))), .val (.int .i64) .no, .dead, .dead, .dead, .dead, .dead, .dead, .dead, .dead, .dead, .dead, .dead, .dead, .dead, .dead, .dead, .dead, .dead, .dead]
abbrev laws_toFanS_l0o : List (Ex × List Sh) := [(.exit 0, [.dead, .dead, .dead, .val (.sl TsiSSi) (.own none (.pr .no (.pr .no (.pr (.own none (.own none .no)) .no)))), .dead, .dead, .dead, .dead, .dead, .dead, .dead, .dead, .dead, .dead, .dead, .dead, .dead, .dead, .dead, .dead, .dead, .dead, .dead])]
def laws_toFanS_l0_step {β : Type} (F : Nat) (k0 : El (.sl TsiSSi) × Unit → Option β) (rec : El (.sl TsiSSi) × El (.sl TsiSSi) × El (.int .i64) × Unit → Option β) (x : El (.sl TsiSSi) × El (.sl TsiSSi) × El (.int .i64) × Unit) : Option β :=
  cond (decide (x.2.2.1 < (x.1.length : Int))) (obind (rdAt x.1 x.2.2.1) fun v1 => obind (laws_toFan F v1) fun r2 => obind (rdAt x.2.1 x.2.2.1) fun v3 => rec (x.1, x.2.1.set x.2.2.1.toNat r2.1, IntKind.i64.wrap (x.2.2.1 + (1 : Int)), ())) (k0 (x.2.1, ()))
def laws_toFanS_l0 (F : Nat) : LoopFn where
  n := 23
  sh := laws_toFanS_l0s
  outs := laws_toFanS_l0o
  es := [.exit 0]
  step := fun rec K x => laws_toFanS_l0_step F K.1 rec x
/-- loop.example/g01021/laws.toFanS -/
def laws_toFanS (F : Nat) (x0 : El (.sl TsiSSi)) : Option (Outs [((.sl TsiSSi), (.own none (.pr .no (.pr .no (.pr (.own none (.own none .no)) .no)))))]) :=
  guardB (decide ((0 : Int) ≤ (x0.length : Int))) (guardB (decide ((x0.length : Int) ≤ (x0.length : Int))) (guardB (decide ((x0.length : Int) * (48 : Int) ≤ 281474976710656)) (guardB (decide ((x0.length : Int) ≤ 9223372036854775807)) (runP (laws_toFanS_l0_step F (fun y4 => some (y4.1, ()))) none F (x0, List.replicate (x0.length : Int).toNat ((⟨#[]⟩ : ByteArray), ((0 : Int), ([], ()))), (0 : Int), ())))))
/-- loop.example/g01021/laws.toPlant -/
def laws_toPlant (F : Nat) (x0 : El T9444c66c) : Option (Outs [(T9444c66c, (.pr (.pr .no (.pr (.own none (.pr .no (.pr .no (.pr .no (.pr .no (.pr .no (.pr .no (.pr .no .no)))))))) .no)) (.pr (.own none (.pr .no (.pr .no (.pr .no (.pr .no .no))))) (.pr (.own none (.own none .no)) (.pr (.own none (.pr .no (.pr .no (.pr (.own none (.own none .no)) .no)))) (.pr (.own none .no) (.pr .no .no)))))))]) :=
  obind (laws_toMine F x0.1) fun r1 => obind (laws_toDoorS F x0.2.1) fun r2 => obind (laws_toInt64SS F x0.2.2.1) fun r3 => obind (laws_toFanS F x0.2.2.2.1) fun r4 => obind (laws_toInt64S F x0.2.2.2.2.1) fun r5 => some ((r1.1, (r2.1, (r3.1, (r4.1, (r5.1, (x0.2.2.2.2.2.1, ())))))), ())
abbrev laws_toBoolS_l0s : List Sh := [.val (.sl .bool) .no, .dead, .dead, .val (.sl .bool) (.own none .no), .val (.int .i64) .no, .dead, .dead, .dead, .dead, .dead, .dead, .dead, .dead, .dead, .dead, .dead, .dead, .dead, .dead, .dead, .dead, .dead]
abbrev laws_toBoolS_l0o : List (Ex × List Sh) := [(.exit 0, [.dead, .dead, .dead, .val (.sl .bool) (.own none .no), .dead, .dead, .dead, .dead, .dead, .dead, .dead, .dead, .dead, .dead, .dead, .dead, .dead, .dead, .dead, .dead, .dead, .dead])]
def laws_toBoolS_l0_step {β : Type} (F : Nat) (k0 : El (.sl .bool) × Unit → Option β) (rec : El (.sl .bool) × El (.sl .bool) × El (.int .i64) × Unit → Option β) (x : El (.sl .bool) × El (.sl .bool) × El (.int .i64) × Unit) : Option β :=
  cond (decide (x.2.2.1 < (x.1.length : Int))) (obind (rdAt x.1 x.2.2.1) fun v1 => obind (rdAt x.2.1 x.2.2.1) fun v2 => rec (x.1, x.2.1.set x.2.2.1.toNat v1, IntKind.i64.wrap (x.2.2.1 + (1 : Int)), ())) (k0 (x.2.1, ()))
def laws_toBoolS_l0 (F : Nat) : LoopFn where
  n := 22
  sh := laws_toBoolS_l0s
  outs := laws_toBoolS_l0o
  es := [.exit 0]
  step := fun rec K x => laws_toBoolS_l0_step F K.1 rec x
/-- loop.example/g01021/laws.toBoolS -/
def laws_toBoolS (F : Nat) (x0 : El (.sl .bool)) : Option (Outs [((.sl .bool), (.own none .no))]) :=
  guardB (decide ((0 : Int) ≤ (x0.length : Int))) (guardB (decide ((x0.length : Int) ≤ (x0.length : Int))) (guardB (decide ((x0.length : Int) * (1 : Int) ≤ 281474976710656)) (guardB (decide ((x0.length : Int) ≤ 9223372036854775807)) (runP (laws_toBoolS_l0_step F (fun y3 => some (y3.1, ()))) none F (x0, List.replicate (x0.length : Int).toNat false, (0 : Int), ())))))
/-- loop.example/g01021/laws.toWant -/
def laws_toWant (F : Nat) (x0 : El Tiii) : Option (Outs [(Tiii, (.pr .no (.pr .no (.pr .no .no))))]) :=
  some ((x0.1, (x0.2.1, (x0.2.2.1, ()))), ())
abbrev laws_toWantS_l0s : List Sh := [.val (.sl Tiii) .no, .dead, .dead, .val (.sl Tiii) (.own none .no), .val (.int .i64) .no, .dead, .dead, .dead, .dead, .dead, .dead, .dead, .dead, .dead, .dead, .dead, .dead, .dead, .dead, .dead, .dead, .dead, .dead]
abbrev laws_toWantS_l0o : List (Ex × List Sh) := [(.exit 0, [.dead, .dead, .dead, .val (.sl Tiii) (.own none .no), .dead, .dead, .dead, .dead, .dead, .dead, .dead, .dead, .dead, .dead, .dead, .dead, .dead, .dead, .dead, .dead, .dead, .dead, .dead])]
def laws_toWantS_l0_step {β : Type} (F : Nat) (k0 : El (.sl Tiii) × Unit → Option β) (rec : El (.sl Tiii) × El (.sl Tiii) × El (.int .i64) × Unit → Option β) (x : El (.sl Tiii) × El (.sl Tiii) × El (.int .i64) × Unit) : Option β :=
  cond (decide (x.2.2.1 < (x.1.length : Int))) (obind (rdAt x.1 x.2.2.1) fun v1 => obind (laws_toWant F v1) fun r2 => obind (rdAt x.2.1 x.2.2.1) fun v3 => rec (x.1, x.2.1.set x.2.2.1.toNat r2.1, IntKind.i64.wrap (x.2.2.1 + (1 : Int)), ())) (k0 (x.2.1, ()))
def laws_toWantS_l0 (F : Nat) : LoopFn where
  n := 23
  sh := laws_toWantS_l0s
  outs := laws_toWantS_l0o
  es := [.exit 0]
  step := fun rec K x => laws_toWantS_l0_step F K.1 rec x
/-- loop.example/g01021/laws.toWantS -/
def laws_toWantS (F : Nat) (x0 : El (.sl Tiii)) : Option (Outs [((.sl Tiii), (.own none (.pr .no (.pr .no (.pr .no .no)))))]) :=
  guardB (decide ((0 : Int) ≤ (x0.length : Int))) (guardB (decide ((x0.length : Int) ≤ (x0.length : Int))) (guardB (decide ((x0.length : Int) * (24 : Int) ≤ 281474976710656)) (guardB (decide ((x0.length : Int) ≤ 9223372036854775807)) (runP (laws_toWantS_l0_step F (fun y4 => some (y4.1, ()))) none F (x0, List.replicate (x0.length : Int).toNat ((0 : Int), ((0 : Int), ((0 : Int), ()))), (0 : Int), ())))))
/-- loop.example/g01021/laws.toSource -/
def laws_toSource (F : Nat) (x0 : El Tsii) : Option (Outs [(Tsii, (.pr .no (.pr .no (.pr .no .no))))]) :=
  some ((x0.1, (x0.2.1, (x0.2.2.1, ()))), ())
abbrev laws_toSourceS_l0s : List Sh := [.val (.sl Tsii) .no, .dead, .dead, .val (.sl Tsii) (.own none .no), .val (.int .i64) .no, .dead, .dead, .dead, .dead, .dead, .dead, .dead, .dead, .dead, .dead, .dead, .dead, .dead, .dead, .dead, .dead, .dead, .dead]
abbrev laws_toSourceS_l0o : List (Ex × List Sh) := [(.exit 0, [.dead, .dead, .dead, .val (.sl Tsii) (.own none .no), .dead, .dead, .dead, .dead, .dead, .dead, .dead, .dead, .dead, .dead, .dead, .dead, .dead, .dead, .dead, .dead, .dead, .dead, .dead])]
def laws_toSourceS_l0_step {β : Type} (F : Nat) (k0 : El (.sl Tsii) × Unit → Option β) (rec : El (.sl Tsii) × El (.sl Tsii) × El (.int .i64) × Unit → Option β) (x : El (.sl Tsii) × El (.sl Tsii) × El (.int .i64) × Unit) : Option β :=
  cond (decide (x.2.2.1 < (x.1.length : Int))) (obind (rdAt x.1 x.2.2.1) fun v1 => obind (laws_toSource F v1) fun r2 => obind (rdAt x.2.1 x.2.2.1) fun v3 => rec (x.1, x.2.1.set x.2.2.1.toNat r2.1, IntKind.i64.wrap (x.2.2.1 + (1 : Int)), ())) (k0 (x.2.1, ()))
def laws_toSourceS_l0 (F : Nat) : LoopFn where
  n := 23
  sh := laws_toSourceS_l0s
  outs := laws_toSourceS_l0o
  es := [.exit 0]
  step := fun rec K x => laws_toSourceS_l0_step F K.1 rec x
/-- loop.example/g01021/laws.toSourceS -/
def laws_toSourceS (F : Nat) (x0 : El (.sl Tsii)) : Option (Outs [((.sl Tsii), (.own none (.pr .no (.pr .no (.pr .no .no)))))]) :=
  guardB (decide ((0 : Int) ≤ (x0.length : Int))) (guardB (decide ((x0.length : Int) ≤ (x0.length : Int))) (guardB (decide ((x0.length : Int) * (32 : Int) ≤ 281474976710656)) (guardB (decide ((x0.length : Int) ≤ 9223372036854775807)) (runP (laws_toSourceS_l0_step F (fun y4 => some (y4.1, ()))) none F (x0, List.replicate (x0.length : Int).toNat ((⟨#[]⟩ : ByteArray), ((0 : Int), ((0 : Int), ()))), (0 : Int), ())))))
/-- loop.example/g01021/laws.toJob -/
def laws_toJob (F : Nat) (x0 : El Tsiii) : Option (Outs [(Tsiii, (.pr .no (.pr .no (.pr .no (.pr .no .no)))))]) :=
  some ((x0.1, (x0.2.1, (x0.2.2.1, (x0.2.2.2.1, ())))), ())
abbrev laws_toJobS_l0s : List Sh := [.val (.sl Tsiii) .no, .dead, .dead, .val (.sl Tsiii) (.own none .no), .val (.int .i64) .no, .dead, .dead, .dead, .dead, .dead, .dead, .dead, .dead, .dead, .dead, .dead, .dead, .dead, .dead, .dead, .dead, .dead, .dead]
abbrev laws_toJobS_l0o : List (Ex × List Sh) := [(.exit 0, [.dead, .dead, .dead, .val (.sl Tsiii) (.own none .no), .dead, .dead, .dead, .dead, .dead, .dead, .dead, .dead, .dead, .dead, .dead, .dead, .dead, .dead, .dead, .dead, .dead, .dead, .dead])]
def laws_toJobS_l0_step {β : Type} (F : Nat) (k0 : El (.sl Tsiii) × Unit → Option β) (rec : El (.sl Tsiii) × El (.sl Tsiii) × El (.int .i64) × Unit → Option β) (x : El (.sl Tsiii) × El (.sl Tsiii) × El (.int .i64) × Unit) : Option β :=
  cond (decide (x.2.2.1 < (x.1.length : Int))) (obind (rdAt x.1 x.2.2.1) fun v1 => obind (laws_toJob F v1) fun r2 => obind (rdAt x.2.1 x.2.2.1) fun v3 => rec (x.1, x.2.1.set x.2.2.1.toNat r2.1, IntKind.i64.wrap (x.2.2.1 + (1 : Int)), ())) (k0 (x.2.1, ()))
def laws_toJobS_l0 (F : Nat) : LoopFn where
  n := 23
  sh := laws_toJobS_l0s
  outs := laws_toJobS_l0o
  es := [.exit 0]
  step := fun rec K x => laws_toJobS_l0_step F K.1 rec x
/-- loop.example/g01021/laws.toJobS -/
def laws_toJobS (F : Nat) (x0 : El (.sl Tsiii)) : Option (Outs [((.sl Tsiii), (.own none (.pr .no (.pr .no (.pr .no (.pr .no .no))))))]) :=
  guardB (decide ((0 : Int) ≤ (x0.length : Int))) (guardB (decide ((x0.length : Int) ≤ (x0.length : Int))) (guardB (decide ((x0.length : Int) * (40 : Int) ≤ 281474976710656)) (guardB (decide ((x0.length : Int) ≤ 9223372036854775807)) (runP (laws_toJobS_l0_step F (fun y4 => some (y4.1, ()))) none F (x0, List.replicate (x0.length : Int).toNat ((⟨#[]⟩ : ByteArray), ((0 : Int), ((0 : Int), ((0 : Int), ())))), (0 : Int), ())))))
/-- loop.example/g01021/laws.toCrew -/
def laws_toCrew (F : Nat) (x0 : El Tsii) : Option (Outs [(Tsii, (.pr .no (.pr .no (.pr .no .no))))]) :=
  some ((x0.1, (x0.2.1, (x0.2.2.1, ()))), ())
abbrev laws_toCrewS_l0s : List Sh := [.val (.sl Tsii) .no, .dead, .dead, .val (.sl Tsii) (.own none .no), .val (.int .i64) .no, .dead, .dead, .dead, .dead, .dead, .dead, .dead, .dead, .dead, .dead, .dead, .dead, .dead, .dead, .dead, .dead, .dead, .dead]
abbrev laws_toCrewS_l0o : List (Ex × List Sh) := [(.exit 0, [.dead, .dead, .dead, .val (.sl Tsii) (.own none .no), .dead, .dead, .dead, .dead, .dead, .dead, .dead, .dead, .dead, .dead, .dead, .dead, .dead, .dead, .dead, .dead, .dead, .dead, .dead])]
def laws_toCrewS_l0_step {β : Type} (F : Nat) (k0 : El (.sl Tsii) × Unit → Option β) (rec : El (.sl Tsii) × El (.sl Tsii) × El (.int .i64) × Unit → Option β) (x : El (.sl Tsii) × El (.sl Tsii) × El (.int .i64) × Unit) : Option β :=
  cond (decide (x.2.2.1 < (x.1.length : Int))) (obind (rdAt x.1 x.2.2.1) fun v1 => obind (laws_toCrew F v1) fun r2 => obind (rdAt x.2.1 x.2.2.1) fun v3 => rec (x.1, x.2.1.set x.2.2.1.toNat r2.1, IntKind.i64.wrap (x.2.2.1 + (1 : Int)), ())) (k0 (x.2.1, ()))
def laws_toCrewS_l0 (F : Nat) : LoopFn where
  n := 23
  sh := laws_toCrewS_l0s
  outs := laws_toCrewS_l0o
  es := [.exit 0]
  step := fun rec K x => laws_toCrewS_l0_step F K.1 rec x
/-- loop.example/g01021/laws.toCrewS -/
def laws_toCrewS (F : Nat) (x0 : El (.sl Tsii)) : Option (Outs [((.sl Tsii), (.own none (.pr .no (.pr .no (.pr .no .no)))))]) :=
  guardB (decide ((0 : Int) ≤ (x0.length : Int))) (guardB (decide ((x0.length : Int) ≤ (x0.length : Int))) (guardB (decide ((x0.length : Int) * (32 : Int) ≤ 281474976710656)) (guardB (decide ((x0.length : Int) ≤ 9223372036854775807)) (runP (laws_toCrewS_l0_step F (fun y4 => some (y4.1, ()))) none F (x0, List.replicate (x0.length : Int).toNat ((⟨#[]⟩ : ByteArray), ((0 : Int), ((0 : Int), ()))), (0 : Int), ())))))
/-- loop.example/g01021/laws.toFire -/
def laws_toFire (F : Nat) (x0 : El Tiii) : Option (Outs [(Tiii, (.pr .no (.pr .no (.pr .no .no))))]) :=
  some ((x0.1, (x0.2.1, (x0.2.2.1, ()))), ())
/-- loop.example/g01021/laws.toPlan -/
def laws_toPlan (F : Nat) (x0 : El Tc66acf8c) : Option (Outs [(Tc66acf8c, (.pr (.pr (.pr .no (.pr (.own none (.pr .no (.pr .no (.pr .no (.pr .no (.pr .no (.pr .no (.pr .no .no)))))))) .no)) (.pr (.own none (.pr .no (.pr .no (.pr .no (.pr .no .no))))) (.pr (.own none (.own none .no)) (.pr (.own none (.pr .no (.pr .no (.pr (.own none (.own none .no)) .no)))) (.pr (.own none .no) (.pr .no .no)))))) (.pr (.own none .no) (.pr (.own none .no) (.pr (.own none (.pr .no (.pr .no (.pr .no .no)))) (.pr (.own none (.pr .no (.pr .no (.pr .no .no)))) (.pr .no (.pr (.own none (.pr .no (.pr .no (.pr .no (.pr .no .no))))) (.pr (.own none (.pr .no (.pr .no (.pr .no .no)))) (.pr (.own none .no) (.pr (.pr .no (.pr .no (.pr .no .no))) (.pr .no .no))))))))))))]) :=
  obind (laws_toPlant F x0.1) fun r1 => obind (laws_toBoolS F x0.2.1) fun r2 => obind (laws_toInt64S F x0.2.2.1) fun r3 => obind (laws_toWantS F x0.2.2.2.1) fun r4 => obind (laws_toSourceS F x0.2.2.2.2.1) fun r5 => obind (laws_toJobS F x0.2.2.2.2.2.2.1) fun r6 => obind (laws_toCrewS F x0.2.2.2.2.2.2.2.1) fun r7 => obind (laws_toInt64S F x0.2.2.2.2.2.2.2.2.1) fun r8 => obind (laws_toFire F x0.2.2.2.2.2.2.2.2.2.1) fun r9 => some ((r1.1, (r2.1, (r3.1, (r4.1, (r5.1, (x0.2.2.2.2.2.1, (r6.1, (r7.1, (r8.1, (r9.1, (x0.2.2.2.2.2.2.2.2.2.2.1, ()))))))))))), ())
/-- loop.example/g01021/spec.l00In -/
def spec_l00In (F : Nat) (x0 : El (.int .i64)) (x1 : El (.int .i64)) (x2 : El (.int .i64)) : Option (Outs [(.bool, .no)]) :=
  cond (decide (x0 ≥ x1)) (some (decide (x0 ≤ x2), ())) (some (false, ()))
/-- loop.example/g01021/spec.l01Small -/
def spec_l01Small (F : Nat) (x0 : El (.int .u8)) : Option (Outs [(.bool, .no)]) :=
  cond (decide (x0 ≥ (97 : Int))) (some (decide (x0 ≤ (122 : Int)), ())) (some (false, ()))
/-- loop.example/g01021/spec.l01Digit -/
def spec_l01Digit (F : Nat) (x0 : El (.int .u8)) : Option (Outs [(.bool, .no)]) :=
  cond (decide (x0 ≥ (48 : Int))) (some (decide (x0 ≤ (57 : Int)), ())) (some (false, ()))
abbrev spec_l01Name_l0s : List Sh := [.val .str .no, .dead, .dead, .val (.int .i64) .no, .dead, .dead, .dead, .dead, .dead, .dead, .dead, .dead, .dead, .dead, .dead, .dead, .dead, .dead, .dead, .dead, .dead, .dead, .dead, .dead, .dead, .dead, .dead, .dead, .dead, .dead, .dead, .dead, .dead, .dead, .dead]
abbrev spec_l01Name_l0o : List (Ex × List Sh) := [(.ret, [.dead, .dead, .val .bool .no, .dead, .dead, .dead, .dead, .dead, .dead, .dead, .dead, .dead, .dead, .dead, .dead, .dead, .dead, .dead, .dead, .dead, .dead, .dead, .dead, .dead, .dead, .dead, .dead, .dead, .dead, .dead, .dead, .dead, .dead, .dead, .dead]), (.exit 0, [.dead, .dead, .dead, .dead, .dead, .dead, .dead, .dead, .dead, .dead, .dead, .dead, .dead, .dead, .dead, .dead, .dead, .dead, .dead, .dead, .dead, .dead, .dead, .dead, .dead, .dead, .dead, .dead, .dead, .dead, .dead, .dead, .dead, .dead, .dead])]
def spec_l01Name_l0_step {β : Type} (F : Nat) (k0 : El .bool × Unit → Option β) (k1 : Unit → Option β) (rec : El .str × El (.int .i64) × Unit → Option β) (x : El .str × El (.int .i64) × Unit) : Option β :=
  cond (decide (x.2.1 < (x.1.size : Int))) (obind (btAt x.1 x.2.1) fun v3 => obind (spec_l01Small F v3) fun r4 => cond (!r4.1) (obind (btAt x.1 x.2.1) fun v5 => obind (spec_l01Digit F v5) fun r6 => cond (!r6.1) (k0 (false, ())) (rec (x.1, IntKind.i64.wrap (x.2.1 + (1 : Int)), ()))) (rec (x.1, IntKind.i64.wrap (x.2.1 + (1 : Int)), ()))) (k1 (()))
def spec_l01Name_l0 (F : Nat) : LoopFn where
  n := 35
  sh := spec_l01Name_l0s
  outs := spec_l01Name_l0o
  es := [.ret, .exit 0]
  step := fun rec K x => spec_l01Name_l0_step F K.1 K.2.1 rec x
/-- loop.example/g01021/spec.l01Name -/
def spec_l01Name (F : Nat) (x0 : El .str) : Option (Outs [(.bool, .no)]) :=
  cond (x0.toList == (⟨#[]⟩ : ByteArray).toList) (some (false, ())) (cond (decide ((x0.size : Int) > (10 : Int))) (some (false, ())) (obind (btAt x0 (0 : Int)) fun v1 => obind (spec_l01Small F v1) fun r2 => cond (!r2.1) (some (false, ())) (runP (spec_l01Name_l0_step F (fun y7 => some (y7.1, ())) (fun y7 => some (true, ()))) none F (x0, (0 : Int), ()))))
/-- loop.example/g01021/spec.l03Ok -/
def spec_l03Ok (F : Nat) (x0 : El (.ptr Tsiiiiii)) : Option (Outs [(.bool, .no)]) :=
  obind (spec_l01Name F x0.1) fun r1 => cond (!r1.1) (some (false, ())) (obind (spec_l00In F x0.2.1 (0 : Int) (15 : Int)) fun r2 => cond (!r2.1) (some (false, ())) (obind (spec_l00In F x0.2.2.1 (0 : Int) (15 : Int)) fun r3 => cond (!r3.1) (some (false, ())) (cond (x0.2.1 == x0.2.2.1) (some (false, ())) (obind (spec_l00In F x0.2.2.2.1 (1 : Int) (10000 : Int)) fun r4 => cond r4.1 (obind (spec_l00In F x0.2.2.2.2.1 (50 : Int) (5000 : Int)) fun r5 => cond r5.1 (obind (spec_l00In F x0.2.2.2.2.2.1 (1 : Int) (1000 : Int)) fun r6 => cond r6.1 (obind (spec_l00In F x0.2.2.2.2.2.2.1 (0 : Int) (1000 : Int)) fun r7 => some (r7.1, ())) (some (false, ()))) (some (false, ()))) (some (false, ()))))))
/-- loop.example/g01021/spec.l04Junction -/
def spec_l04Junction (F : Nat) (x0 : El (.ptr TiSqsiiiiiip)) (x1 : El (.int .i64)) : Option (Outs [(.bool, .no)]) :=
  obind (spec_l00In F x1 (0 : Int) (IntKind.i64.wrap (x0.1 - (1 : Int)))) fun r1 => some (r1.1, ())
abbrev spec_l04Ok_l0s : List Sh := [.val (.ptr TiSqsiiiiiip) .no, .dead, .dead, .val (.int .i64) .no, .dead, .dead, .dead, .dead, .dead, .dead, .dead, .dead, .dead, .dead, .dead, .dead, .dead, .dead, .dead, .dead, .dead, .dead, .dead, .dead, .dead, .dead, .dead, .dead, .dead, .dead, .dead, .dead, .dead, .dead, .dead, .dead, .dead, .dead, .dead, .dead, .dead, .dead, .dead, .dead, .dead, .dead, .dead, .dead, .dead, .dead, .dead, .dead, .dead, .dead, .dead, .dead, .dead, .dead, .dead, .dead, .dead, .dead, .dead, .dead, .dead, .dead, .dead, .dead, .dead, .dead, .dead, .dead, .dead]
abbrev spec_l04Ok_l0o : List (Ex × List Sh) := [(.ret, [.dead, .dead, .val .bool .no, .dead, .dead, .dead, .dead, .dead, .dead, .dead, .dead, .dead, .dead, .dead, .dead, .dead, .dead, .dead, .dead, .dead, .dead, .dead, .dead, .dead, .dead, .dead, .dead, .dead, .dead, .dead, .dead, .dead, .dead, .dead, .dead, .dead, .dead, .dead, .dead, .dead, .dead, .dead, .dead, .dead, .dead, .dead, .dead, .dead, .dead, .dead, .dead, .dead, .dead, .dead, .dead, .dead, .dead, .dead, .dead, .dead, .dead, .dead, .dead, .dead, .dead, .dead, .dead, .dead, .dead, .dead, .dead, .dead, .dead]), (.exit 0, [.val (.ptr TiSqsiiiiiip) .no, .dead, .dead, .dead, .dead, .dead, .dead, .dead, .dead, .dead, .dead, .dead, .dead, .dead, .dead, .dead, .dead, .dead, .dead, .dead, .dead, .dead, .dead, .dead, .dead, .dead, .dead, .dead, .dead, .dead, .dead, .dead, .dead, .dead, .dead, .dead, .dead, .dead, .dead, .dead, .dead, .dead, .dead, .dead, .dead, .dead, .dead, .dead, .dead, .dead, .dead, .dead, .dead, .dead, .dead, .dead, .dead, .dead, .dead, .dead, .dead, .dead, .dead, .dead, .dead, .dead, .dead, .dead, .dead, .dead, .dead, .dead, .dead])]
def spec_l04Ok_l0_step {β : Type} (F : Nat) (k0 : El .bool × Unit → Option β) (k1 : El (.ptr TiSqsiiiiiip) × Unit → Option β) (rec : El (.ptr TiSqsiiiiiip) × El (.int .i64) × Unit → Option β) (x : El (.ptr TiSqsiiiiiip) × El (.int .i64) × Unit) : Option β :=
  cond (decide (x.2.1 < (x.1.2.1.length : Int))) (obind (rdAt x.1.2.1 x.2.1) fun v2 => obind (spec_l03Ok F v2) fun r3 => cond (!r3.1) (k0 (false, ())) (obind (spec_l04Junction F x.1 v2.2.1) fun r4 => cond (!r4.1) (k0 (false, ())) (obind (spec_l04Junction F x.1 v2.2.2.1) fun r5 => cond (!r5.1) (k0 (false, ())) (cond (decide (x.2.1 > (0 : Int))) (obind (rdAt x.1.2.1 (IntKind.i64.wrap (x.2.1 - (1 : Int)))) fun v6 => cond (!(Op.bytesLess v6.1.toList v2.1.toList)) (k0 (false, ())) (rec (x.1, IntKind.i64.wrap (x.2.1 + (1 : Int)), ()))) (rec (x.1, IntKind.i64.wrap (x.2.1 + (1 : Int)), ())))))) (k1 (x.1, ()))
def spec_l04Ok_l0 (F : Nat) : LoopFn where
  n := 73
  sh := spec_l04Ok_l0s
  outs := spec_l04Ok_l0o
  es := [.ret, .exit 0]
  step := fun rec K x => spec_l04Ok_l0_step F K.1 K.2.1 rec x
/-- loop.example/g01021/spec.l04Ok -/
def spec_l04Ok (F : Nat) (x0 : El (.ptr TiSqsiiiiiip)) : Option (Outs [(.bool, .no)]) :=
  obind (spec_l00In F x0.1 (1 : Int) (16 : Int)) fun r1 => cond (!r1.1) (some (false, ())) (runP (spec_l04Ok_l0_step F (fun y7 => some (y7.1, ())) (fun y7 => some (decide ((y7.1.2.1.length : Int) ≤ (24 : Int)), ()))) none F (x0, (0 : Int), ()))
/-- loop.example/g01021/spec.l03Res -/
def spec_l03Res (F : Nat) (x0 : El (.int .i64)) : Option (Outs [(.bool, .no)]) :=
  obind (spec_l00In F x0 (1 : Int) (1000000 : Int)) fun r1 => some (r1.1, ())
/-- loop.example/g01021/spec.l10One -/
def spec_l10One (F : Nat) (x0 : El (.ptr Tsiii)) : Option (Outs [(.bool, .no)]) :=
  obind (spec_l01Name F x0.1) fun r1 => cond r1.1 (obind (spec_l00In F x0.2.1 (0 : Int) (23 : Int)) fun r2 => cond r2.1 (obind (spec_l03Res F x0.2.2.2.1) fun r3 => cond r3.1 (obind (spec_l00In F x0.2.2.1 (1 : Int) x0.2.2.2.1) fun r4 => some (r4.1, ())) (some (false, ()))) (some (false, ()))) (some (false, ()))
abbrev spec_l10Ok_l1s : List Sh := [.val (.ptr TiSqsiiiiiip) .no, .val (.sl Tsiii) .no, .dead, .dead, .dead, .val (.int .i64) .no, .val (.int .i64) .no, .dead, .dead, .dead, .dead, .dead, .dead, .dead, .dead, .dead, .dead, .dead, .dead, .dead, .dead, .dead, .dead, .dead, .dead, .dead, .dead, .dead, .dead, .dead, .dead, .dead, .dead, .dead, .dead, .dead, .dead, .dead, .dead, .dead, .dead, .dead, .dead, .dead, .dead, .dead, .dead, .dead, .dead, .dead, .dead, .dead, .dead, .dead, .dead, .dead, .dead, .dead, .dead, .dead, .dead, .dead, .dead, .dead, .dead, .dead, .dead, .dead, .dead, .dead, .dead, .dead, .dead]
abbrev spec_l10Ok_l1o : List (Ex × List Sh) := [(.ret, [.dead, .dead, .dead, .dead, .val .bool .no, .dead, .dead, .dead, .dead, .dead, .dead, .dead, .dead, .dead, .dead, .dead, .dead, .dead, .dead, .dead, .dead, .dead, .dead, .dead, .dead, .dead, .dead, .dead, .dead, .dead, .dead, .dead, .dead, .dead, .dead, .dead, .dead, .dead, .dead, .dead, .dead, .dead, .dead, .dead, .dead, .dead, .dead, .dead, .dead, .dead, .dead, .dead, .dead, .dead, .dead, .dead, .dead, .dead, .dead, .dead, .dead, .dead, .dead, .dead, .dead, .dead, .dead, .dead, .dead, .dead, .dead, .dead, .dead]), (.exit 2, [.val (.ptr TiSqsiiiiiip) .no, .val (.sl Tsiii) .no, .dead, .dead, .dead, .val (.int .i64) .no, .dead, .dead, .dead, .dead, .dead, .dead, .dead, .dead, .dead, .dead, .dead, .dead, .dead, .dead, .dead, .dead, .dead, .dead, .dead, .dead, .dead, .dead, .dead, .dead, .dead, .dead, .dead, .dead, .dead, .dead, .dead, .dead, .dead, .dead, .dead, .dead, .dead, .dead, .dead, .dead, .dead, .dead, .dead, .dead, .dead, .dead, .dead, .dead, .dead, .dead, .dead, .dead, .dead, .dead, .dead, .dead, .dead, .dead, .dead, .dead, .dead, .dead, .dead, .dead, .dead, .dead, .dead])]
def spec_l10Ok_l1_step {β : Type} (F : Nat) (k0 : El .bool × Unit → Option β) (k1 : El (.ptr TiSqsiiiiiip) × El (.sl Tsiii) × El (.int .i64) × Unit → Option β) (rec : El (.ptr TiSqsiiiiiip) × El (.sl Tsiii) × El (.int .i64) × El (.int .i64) × Unit → Option β) (x : El (.ptr TiSqsiiiiiip) × El (.sl Tsiii) × El (.int .i64) × El (.int .i64) × Unit) : Option β :=
  cond (decide (x.2.2.2.1 < x.2.2.1)) (obind (rdAt x.2.1 x.2.2.2.1) fun v7 => obind (rdAt x.2.1 x.2.2.1) fun v8 => cond (v7.2.1 == v8.2.1) (k0 (false, ())) (rec (x.1, x.2.1, x.2.2.1, IntKind.i64.wrap (x.2.2.2.1 + (1 : Int)), ()))) (k1 (x.1, x.2.1, x.2.2.1, ()))
def spec_l10Ok_l1 (F : Nat) : LoopFn where
  n := 73
  sh := spec_l10Ok_l1s
  outs := spec_l10Ok_l1o
  es := [.ret, .exit 2]
  step := fun rec K x => spec_l10Ok_l1_step F K.1 K.2.1 rec x
abbrev spec_l10Ok_l0s : List Sh := [.val (.ptr TiSqsiiiiiip) .no, .val (.sl Tsiii) .no, .dead, .dead, .dead, .val (.int .i64) .no, .dead, .dead, .dead, .dead, .dead, .dead, .dead, .dead, .dead, .dead, .dead, .dead, .dead, .dead, .dead, .dead, .dead, .dead, .dead, .dead, .dead, .dead, .dead, .dead, .dead, .dead, .dead, .dead, .dead, .dead, .dead, .dead, .dead, .dead, .dead, .dead, .dead, .dead, .dead, .dead, .dead, .dead, .dead, .dead, .dead, .dead, .dead, .dead, .dead, .dead, .dead, .dead, .dead, .dead, .dead, .dead, .dead, .dead, .dead, .dead, .dead, .dead, .dead, .dead, .dead, .dead, .dead]
abbrev spec_l10Ok_l0o : List (Ex × List Sh) := [(.ret, [.dead, .dead, .dead, .dead, .val .bool .no, .dead, .dead, .dead, .dead, .dead, .dead, .dead, .dead, .dead, .dead, .dead, .dead, .dead, .dead, .dead, .dead, .dead, .dead, .dead, .dead, .dead, .dead, .dead, .dead, .dead, .dead, .dead, .dead, .dead, .dead, .dead, .dead, .dead, .dead, .dead, .dead, .dead, .dead, .dead, .dead, .dead, .dead, .dead, .dead, .dead, .dead, .dead, .dead, .dead, .dead, .dead, .dead, .dead, .dead, .dead, .dead, .dead, .dead, .dead, .dead, .dead, .dead, .dead, .dead, .dead, .dead, .dead, .dead]), (.exit 0, [.dead, .dead, .dead, .dead, .dead, .dead, .dead, .dead, .dead, .dead, .dead, .dead, .dead, .dead, .dead, .dead, .dead, .dead, .dead, .dead, .dead, .dead, .dead, .dead, .dead, .dead, .dead, .dead, .dead, .dead, .dead, .dead, .dead, .dead, .dead, .dead, .dead, .dead, .dead, .dead, .dead, .dead, .dead, .dead, .dead, .dead, .dead, .dead, .dead, .dead, .dead, .dead, .dead, .dead, .dead, .dead, .dead, .dead, .dead, .dead, .dead, .dead, .dead, .dead, .dead, .dead, .dead, .dead, .dead, .dead, .dead, .dead, .dead])]
def spec_l10Ok_l0_step {β : Type} (F : Nat) (k0 : El .bool × Unit → Option β) (k1 : Unit → Option β) (rec : El (.ptr TiSqsiiiiiip) × El (.sl Tsiii) × El (.int .i64) × Unit → Option β) (x : El (.ptr TiSqsiiiiiip) × El (.sl Tsiii) × El (.int .i64) × Unit) : Option β :=
  cond (decide (x.2.2.1 < (x.2.1.length : Int))) (obind (rdAt x.2.1 x.2.2.1) fun v2 => obind (spec_l10One F v2) fun r3 => cond (!r3.1) (k0 (false, ())) (obind (rdAt x.2.1 x.2.2.1) fun v4 => cond (decide (v4.2.1 ≥ (x.1.2.1.length : Int))) (k0 (false, ())) (cond (decide (x.2.2.1 > (0 : Int))) (obind (rdAt x.2.1 (IntKind.i64.wrap (x.2.2.1 - (1 : Int)))) fun v5 => obind (rdAt x.2.1 x.2.2.1) fun v6 => cond (!(Op.bytesLess v5.1.toList v6.1.toList)) (k0 (false, ())) (runP (spec_l10Ok_l1_step F (fun y9 => k0 (y9.1, ())) (fun y9 => rec (y9.1, y9.2.1, IntKind.i64.wrap (y9.2.2.1 + (1 : Int)), ()))) none F (x.1, x.2.1, x.2.2.1, (0 : Int), ()))) (runP (spec_l10Ok_l1_step F (fun y10 => k0 (y10.1, ())) (fun y10 => rec (y10.1, y10.2.1, IntKind.i64.wrap (y10.2.2.1 + (1 : Int)), ()))) none F (x.1, x.2.1, x.2.2.1, (0 : Int), ()))))) (k1 (()))
def spec_l10Ok_l0 (F : Nat) : LoopFn where
  n := 73
  sh := spec_l10Ok_l0s
  outs := spec_l10Ok_l0o
  es := [.ret, .exit 0]
  step := fun rec K x => spec_l10Ok_l0_step F K.1 K.2.1 rec x
/-- loop.example/g01021/spec.l10Ok -/
def spec_l10Ok (F : Nat) (x0 : El (.ptr TiSqsiiiiiip)) (x1 : El (.sl Tsiii)) : Option (Outs [(.bool, .no)]) :=
  obind (spec_l04Ok F x0) fun r1 => cond (!r1.1) (some (false, ())) (cond (decide ((x1.length : Int) > (8 : Int))) (some (false, ())) (runP (spec_l10Ok_l0_step F (fun y11 => some (y11.1, ())) (fun y11 => some (true, ()))) none F (x0, x1, (0 : Int), ())))
abbrev spec_l10Locks_l0s : List Sh := [.val (.int .i64) .no, .val (.sl (.sl (.int .i64))) .no, .dead, .dead, .dead, .val (.int .i64) .no, .dead, .dead, .dead, .dead, .dead, .dead, .dead, .dead, .dead, .dead, .dead, .dead, .dead, .dead, .dead, .dead, .dead, .dead, .dead, .dead, .dead, .dead, .dead, .dead, .dead, .dead, .dead, .dead, .dead, .dead, .dead, .dead, .dead, .dead, .dead, .dead, .dead, .dead, .dead, .dead, .dead, .dead, .dead, .dead, .dead, .dead, .dead, .dead, .dead, .dead, .dead, .dead, .dead, .dead, .dead, .dead, .dead, .dead, .dead, .dead, .dead, .dead, .dead, .dead, .dead, .dead, .dead, .dead, .dead, .dead, .dead, .dead, .dead, .dead, .dead, .dead, .dead, .dead, .dead, .dead, .dead, .dead, .dead]
abbrev spec_l10Locks_l0o : List (Ex × List Sh) := [(.ret, [.dead, .dead, .dead, .dead, .val .bool .no, .dead, .dead, .dead, .dead, .dead, .dead, .dead, .dead, .dead, .dead, .dead, .dead, .dead, .dead, .dead, .dead, .dead, .dead, .dead, .dead, .dead, .dead, .dead, .dead, .dead, .dead, .dead, .dead, .dead, .dead, .dead, .dead, .dead, .dead, .dead, .dead, .dead, .dead, .dead, .dead, .dead, .dead, .dead, .dead, .dead, .dead, .dead, .dead, .dead, .dead, .dead, .dead, .dead, .dead, .dead, .dead, .dead, .dead, .dead, .dead, .dead, .dead, .dead, .dead, .dead, .dead, .dead, .dead, .dead, .dead, .dead, .dead, .dead, .dead, .dead, .dead, .dead, .dead, .dead, .dead, .dead, .dead, .dead, .dead]), (.exit 0, [.dead, .dead, .dead, .dead, .dead, .dead, .dead, .dead, .dead, .dead, .dead, .dead, .dead, .dead, .dead, .dead, .dead, .dead, .dead, .dead, .dead, .dead, .dead, .dead, .dead, .dead, .dead, .dead, .dead, .dead, .dead, .dead, .dead, .dead, .dead, .dead, .dead, .dead, .dead, .dead, .dead, .dead, .dead, .dead, .dead, .dead, .dead, .dead, .dead, .dead, .dead, .dead, .dead, .dead, .dead, .dead, .dead, .dead, .dead, .dead, .dead, .dead, .dead, .dead, .dead, .dead, .dead, .dead, .dead, .dead, .dead, .dead, .dead, .dead, .dead, .dead, .dead, .dead, .dead, .dead, .dead, .dead, .dead, .dead, .dead, .dead, .dead, .dead, .dead])]
def spec_l10Locks_l0_step {β : Type} (F : Nat) (k0 : El .bool × Unit → Option β) (k1 : Unit → Option β) (rec : El (.int .i64) × El (.sl (.sl (.int .i64))) × El (.int .i64) × Unit → Option β) (x : El (.int .i64) × El (.sl (.sl (.int .i64))) × El (.int .i64) × Unit) : Option β :=
  cond (decide (x.2.2.1 < (x.2.1.length : Int))) (obind (rdAt x.2.1 x.2.2.1) fun v2 => cond ((v2.length : Int) != (2 : Int)) (k0 (false, ())) (obind (rdAt v2 (1 : Int)) fun v3 => obind (spec_l00In F v3 (0 : Int) (IntKind.i64.wrap (x.1 - (1 : Int)))) fun r4 => cond (!r4.1) (k0 (false, ())) (obind (rdAt v2 (0 : Int)) fun v5 => obind (rdAt v2 (1 : Int)) fun v6 => obind (spec_l00In F v5 (0 : Int) (IntKind.i64.wrap (v6 - (1 : Int)))) fun r7 => cond (!r7.1) (k0 (false, ())) (cond (decide (x.2.2.1 > (0 : Int))) (obind (rdAt x.2.1 (IntKind.i64.wrap (x.2.2.1 - (1 : Int)))) fun v8 => obind (rdAt v8 (0 : Int)) fun v9 => obind (rdAt v2 (0 : Int)) fun v10 => cond (decide (v9 > v10)) (k0 (false, ())) (obind (rdAt x.2.1 (IntKind.i64.wrap (x.2.2.1 - (1 : Int)))) fun v11 => obind (rdAt v11 (0 : Int)) fun v12 => obind (rdAt v2 (0 : Int)) fun v13 => cond (v12 == v13) (obind (rdAt x.2.1 (IntKind.i64.wrap (x.2.2.1 - (1 : Int)))) fun v14 => obind (rdAt v14 (1 : Int)) fun v15 => obind (rdAt v2 (1 : Int)) fun v16 => cond (decide (v15 ≥ v16)) (k0 (false, ())) (rec (x.1, x.2.1, IntKind.i64.wrap (x.2.2.1 + (1 : Int)), ()))) (rec (x.1, x.2.1, IntKind.i64.wrap (x.2.2.1 + (1 : Int)), ())))) (rec (x.1, x.2.1, IntKind.i64.wrap (x.2.2.1 + (1 : Int)), ())))))) (k1 (()))
def spec_l10Locks_l0 (F : Nat) : LoopFn where
  n := 89
  sh := spec_l10Locks_l0s
  outs := spec_l10Locks_l0o
  es := [.ret, .exit 0]
  step := fun rec K x => spec_l10Locks_l0_step F K.1 K.2.1 rec x
/-- loop.example/g01021/spec.l10Locks -/
def spec_l10Locks (F : Nat) (x0 : El (.int .i64)) (x1 : El (.sl (.sl (.int .i64)))) : Option (Outs [(.bool, .no)]) :=
  obind (spec_l00In F x0 (0 : Int) (8 : Int)) fun r1 => cond (!r1.1) (some (false, ())) (cond (decide ((x1.length : Int) > (12 : Int))) (some (false, ())) (runP (spec_l10Locks_l0_step F (fun y17 => some (y17.1, ())) (fun y17 => some (true, ()))) none F (x0, x1, (0 : Int), ())))
abbrev spec_l06Curve_l0s : List Sh := [.val (.sl (.sl (.int .i64))) .no, .dead, .dead, .val (.int .i64) .no, .dead, .dead, .dead, .dead, .dead, .dead, .dead, .dead, .dead, .dead, .dead, .dead, .dead, .dead, .dead, .dead, .dead, .dead, .dead, .dead, .dead, .dead, .dead, .dead, .dead, .dead, .dead, .dead, .dead, .dead, .dead, .dead, .dead, .dead, .dead, .dead, .dead, .dead, .dead, .dead, .dead, .dead, .dead, .dead, .dead, .dead, .dead, .dead, .dead, .dead, .dead, .dead, .dead, .dead, .dead, .dead, .dead, .dead, .dead, .dead, .dead, .dead, .dead, .dead, .dead, .dead]
abbrev spec_l06Curve_l0o : List (Ex × List Sh) := [(.ret, [.dead, .dead, .val .bool .no, .dead, .dead, .dead, .dead, .dead, .dead, .dead, .dead, .dead, .dead, .dead, .dead, .dead, .dead, .dead, .dead, .dead, .dead, .dead, .dead, .dead, .dead, .dead, .dead, .dead, .dead, .dead, .dead, .dead, .dead, .dead, .dead, .dead, .dead, .dead, .dead, .dead, .dead, .dead, .dead, .dead, .dead, .dead, .dead, .dead, .dead, .dead, .dead, .dead, .dead, .dead, .dead, .dead, .dead, .dead, .dead, .dead, .dead, .dead, .dead, .dead, .dead, .dead, .dead, .dead, .dead, .dead]), (.exit 0, [.val (.sl (.sl (.int .i64))) .no, .dead, .dead, .dead, .dead, .dead, .dead, .dead, .dead, .dead, .dead, .dead, .dead, .dead, .dead, .dead, .dead, .dead, .dead, .dead, .dead, .dead, .dead, .dead, .dead, .dead, .dead, .dead, .dead, .dead, .dead, .dead, .dead, .dead, .dead, .dead, .dead, .dead, .dead, .dead, .dead, .dead, .dead, .dead, .dead, .dead, .dead, .dead, .dead, .dead, .dead, .dead, .dead, .dead, .dead, .dead, .dead, .dead, .dead, .dead, .dead, .dead, .dead, .dead, .dead, .dead, .dead, .dead, .dead, .dead])]
def spec_l06Curve_l0_step {β : Type} (F : Nat) (k0 : El .bool × Unit → Option β) (k1 : El (.sl (.sl (.int .i64))) × Unit → Option β) (rec : El (.sl (.sl (.int .i64))) × El (.int .i64) × Unit → Option β) (x : El (.sl (.sl (.int .i64))) × El (.int .i64) × Unit) : Option β :=
  cond (decide (x.2.1 < (x.1.length : Int))) (obind (rdAt x.1 x.2.1) fun v1 => cond ((v1.length : Int) != (2 : Int)) (k0 (false, ())) (obind (rdAt v1 (0 : Int)) fun v2 => obind (spec_l00In F v2 (0 : Int) (100000 : Int)) fun r3 => cond (!r3.1) (k0 (false, ())) (obind (rdAt v1 (1 : Int)) fun v4 => obind (spec_l00In F v4 (0 : Int) (10000 : Int)) fun r5 => cond (!r5.1) (k0 (false, ())) (cond (decide (x.2.1 > (0 : Int))) (obind (rdAt x.1 (IntKind.i64.wrap (x.2.1 - (1 : Int)))) fun v6 => obind (rdAt v6 (0 : Int)) fun v7 => obind (rdAt v1 (0 : Int)) fun v8 => cond (decide (v7 ≥ v8)) (k0 (false, ())) (obind (rdAt x.1 (IntKind.i64.wrap (x.2.1 - (1 : Int)))) fun v9 => obind (rdAt v9 (1 : Int)) fun v10 => obind (rdAt v1 (1 : Int)) fun v11 => cond (decide (v10 < v11)) (k0 (false, ())) (rec (x.1, IntKind.i64.wrap (x.2.1 + (1 : Int)), ())))) (rec (x.1, IntKind.i64.wrap (x.2.1 + (1 : Int)), ())))))) (k1 (x.1, ()))
def spec_l06Curve_l0 (F : Nat) : LoopFn where
  n := 70
  sh := spec_l06Curve_l0s
  outs := spec_l06Curve_l0o
  es := [.ret, .exit 0]
  step := fun rec K x => spec_l06Curve_l0_step F K.1 K.2.1 rec x
/-- loop.example/g01021/spec.l06Curve -/
def spec_l06Curve (F : Nat) (x0 : El (.sl (.sl (.int .i64)))) : Option (Outs [(.bool, .no)]) :=
  runP (spec_l06Curve_l0_step F (fun y12 => some (y12.1, ())) (fun y12 => cond (decide ((y12.1.length : Int) ≥ (2 : Int))) (some (decide ((y12.1.length : Int) ≤ (8 : Int)), ())) (some (false, ())))) none F (x0, (0 : Int), ())
/-- loop.example/g01021/spec.l06Ok -/
def spec_l06Ok (F : Nat) (x0 : El (.ptr TsiSSi)) : Option (Outs [(.bool, .no)]) :=
  obind (spec_l01Name F x0.1) fun r1 => cond r1.1 (obind (spec_l00In F x0.2.1 (0 : Int) (23 : Int)) fun r2 => cond r2.1 (obind (spec_l06Curve F x0.2.2.1) fun r3 => some (r3.1, ())) (some (false, ()))) (some (false, ()))
abbrev spec_l06List_l0s : List Sh := [.val (.sl TsiSSi) .no, .dead, .dead, .val (.int .i64) .no, .dead, .dead, .dead, .dead, .dead, .dead, .dead, .dead, .dead, .dead, .dead, .dead, .dead, .dead, .dead, .dead, .dead, .dead, .dead, .dead, .dead, .dead, .dead, .dead, .dead, .dead, .dead, .dead, .dead, .dead, .dead, .dead]
abbrev spec_l06List_l0o : List (Ex × List Sh) := [(.ret, [.dead, .dead, .val .bool .no, .dead, .dead, .dead, .dead, .dead, .dead, .dead, .dead, .dead, .dead, .dead, .dead, .dead, .dead, .dead, .dead, .dead, .dead, .dead, .dead, .dead, .dead, .dead, .dead, .dead, .dead, .dead, .dead, .dead, .dead, .dead, .dead, .dead]), (.exit 0, [.val (.sl TsiSSi) .no, .dead, .dead, .dead, .dead, .dead, .dead, .dead, .dead, .dead, .dead, .dead, .dead, .dead, .dead, .dead, .dead, .dead, .dead, .dead, .dead, .dead, .dead, .dead, .dead, .dead, .dead, .dead, .dead, .dead, .dead, .dead, .dead, .dead, .dead, .dead])]
def spec_l06List_l0_step {β : Type} (F : Nat) (k0 : El .bool × Unit → Option β) (k1 : El (.sl TsiSSi) × Unit → Option β) (rec : El (.sl TsiSSi) × El (.int .i64) × Unit → Option β) (x : El (.sl TsiSSi) × El (.int .i64) × Unit) : Option β :=
  cond (decide (x.2.1 < (x.1.length : Int))) (obind (rdAt x.1 x.2.1) fun v1 => obind (spec_l06Ok F v1) fun r2 => cond (!r2.1) (k0 (false, ())) (cond (decide (x.2.1 > (0 : Int))) (obind (rdAt x.1 (IntKind.i64.wrap (x.2.1 - (1 : Int)))) fun v3 => obind (rdAt x.1 x.2.1) fun v4 => cond (!(Op.bytesLess v3.1.toList v4.1.toList)) (k0 (false, ())) (rec (x.1, IntKind.i64.wrap (x.2.1 + (1 : Int)), ()))) (rec (x.1, IntKind.i64.wrap (x.2.1 + (1 : Int)), ())))) (k1 (x.1, ()))
def spec_l06List_l0 (F : Nat) : LoopFn where
  n := 36
  sh := spec_l06List_l0s
  outs := spec_l06List_l0o
  es := [.ret, .exit 0]
  step := fun rec K x => spec_l06List_l0_step F K.1 K.2.1 rec x
/-- loop.example/g01021/spec.l06List -/
def spec_l06List (F : Nat) (x0 : El (.sl TsiSSi)) : Option (Outs [(.bool, .no)]) :=
  runP (spec_l06List_l0_step F (fun y5 => some (y5.1, ())) (fun y5 => some (decide ((y5.1.length : Int) ≤ (8 : Int)), ()))) none F (x0, (0 : Int), ())
abbrev spec_l07Fans_l0s : List Sh := [.val (.ptr TiSqsiiiiiip) .no, .val (.sl TsiSSi) .no, .dead, .dead, .dead, .val (.int .i64) .no, .dead, .dead, .dead, .dead, .dead, .dead, .dead, .dead, .dead, .dead, .dead, .dead, .dead, .dead, .dead, .dead, .dead]
abbrev spec_l07Fans_l0o : List (Ex × List Sh) := [(.ret, [.dead, .dead, .dead, .dead, .val .bool .no, .dead, .dead, .dead, .dead, .dead, .dead, .dead, .dead, .dead, .dead, .dead, .dead, .dead, .dead, .dead, .dead, .dead, .dead]), (.exit 0, [.dead, .dead, .dead, .dead, .dead, .dead, .dead, .dead, .dead, .dead, .dead, .dead, .dead, .dead, .dead, .dead, .dead, .dead, .dead, .dead, .dead, .dead, .dead])]
def spec_l07Fans_l0_step {β : Type} (F : Nat) (k0 : El .bool × Unit → Option β) (k1 : Unit → Option β) (rec : El (.ptr TiSqsiiiiiip) × El (.sl TsiSSi) × El (.int .i64) × Unit → Option β) (x : El (.ptr TiSqsiiiiiip) × El (.sl TsiSSi) × El (.int .i64) × Unit) : Option β :=
  cond (decide (x.2.2.1 < (x.2.1.length : Int))) (obind (rdAt x.2.1 x.2.2.1) fun v1 => cond (decide (v1.2.1 ≥ (x.1.2.1.length : Int))) (k0 (false, ())) (rec (x.1, x.2.1, IntKind.i64.wrap (x.2.2.1 + (1 : Int)), ()))) (k1 (()))
def spec_l07Fans_l0 (F : Nat) : LoopFn where
  n := 23
  sh := spec_l07Fans_l0s
  outs := spec_l07Fans_l0o
  es := [.ret, .exit 0]
  step := fun rec K x => spec_l07Fans_l0_step F K.1 K.2.1 rec x
/-- loop.example/g01021/spec.l07Fans -/
def spec_l07Fans (F : Nat) (x0 : El (.ptr TiSqsiiiiiip)) (x1 : El (.sl TsiSSi)) : Option (Outs [(.bool, .no)]) :=
  runP (spec_l07Fans_l0_step F (fun y2 => some (y2.1, ())) (fun y2 => some (true, ()))) none F (x0, x1, (0 : Int), ())
abbrev spec_l07Pressures_l0s : List Sh := [.val (.ptr TiSqsiiiiiip) .no, .val (.sl (.int .i64)) .no, .dead, .dead, .dead, .val (.int .i64) .no, .dead, .dead, .dead, .dead, .dead, .dead, .dead, .dead, .dead, .dead, .dead, .dead, .dead, .dead, .dead, .dead, .dead, .dead, .dead, .dead]
abbrev spec_l07Pressures_l0o : List (Ex × List Sh) := [(.ret, [.dead, .dead, .dead, .dead, .val .bool .no, .dead, .dead, .dead, .dead, .dead, .dead, .dead, .dead, .dead, .dead, .dead, .dead, .dead, .dead, .dead, .dead, .dead, .dead, .dead, .dead, .dead]), (.exit 0, [.val (.ptr TiSqsiiiiiip) .no, .val (.sl (.int .i64)) .no, .dead, .dead, .dead, .dead, .dead, .dead, .dead, .dead, .dead, .dead, .dead, .dead, .dead, .dead, .dead, .dead, .dead, .dead, .dead, .dead, .dead, .dead, .dead, .dead])]
def spec_l07Pressures_l0_step {β : Type} (F : Nat) (k0 : El .bool × Unit → Option β) (k1 : El (.ptr TiSqsiiiiiip) × El (.sl (.int .i64)) × Unit → Option β) (rec : El (.ptr TiSqsiiiiiip) × El (.sl (.int .i64)) × El (.int .i64) × Unit → Option β) (x : El (.ptr TiSqsiiiiiip) × El (.sl (.int .i64)) × El (.int .i64) × Unit) : Option β :=
  cond (decide (x.2.2.1 < (x.2.1.length : Int))) (obind (rdAt x.2.1 x.2.2.1) fun v1 => obind (spec_l00In F v1 (-100000 : Int) (100000 : Int)) fun r2 => cond (!r2.1) (k0 (false, ())) (rec (x.1, x.2.1, IntKind.i64.wrap (x.2.2.1 + (1 : Int)), ()))) (k1 (x.1, x.2.1, ()))
def spec_l07Pressures_l0 (F : Nat) : LoopFn where
  n := 26
  sh := spec_l07Pressures_l0s
  outs := spec_l07Pressures_l0o
  es := [.ret, .exit 0]
  step := fun rec K x => spec_l07Pressures_l0_step F K.1 K.2.1 rec x
/-- loop.example/g01021/spec.l07Pressures -/
def spec_l07Pressures (F : Nat) (x0 : El (.ptr TiSqsiiiiiip)) (x1 : El (.sl (.int .i64))) : Option (Outs [(.bool, .no)]) :=
  runP (spec_l07Pressures_l0_step F (fun y3 => some (y3.1, ())) (fun y3 => some (((y3.2.1.length : Int) == (y3.1.2.1.length : Int)), ()))) none F (x0, x1, (0 : Int), ())
/-- loop.example/g01021/spec.l21Ok -/
def spec_l21Ok (F : Nat) (x0 : El (.ptr T9444c66c)) : Option (Outs [(.bool, .no)]) :=
  obind (spec_l10Ok F x0.1 x0.2.1) fun r1 => cond (!r1.1) (some (false, ())) (obind (spec_l10Locks F (x0.2.1.length : Int) x0.2.2.1) fun r2 => cond (!r2.1) (some (false, ())) (obind (spec_l06List F x0.2.2.2.1) fun r3 => cond (!r3.1) (some (false, ())) (obind (spec_l07Fans F x0.1 x0.2.2.2.1) fun r4 => cond r4.1 (obind (spec_l07Pressures F x0.1 x0.2.2.2.2.1) fun r5 => cond r5.1 (obind (spec_l00In F x0.2.2.2.2.2.1 (0 : Int) (100000 : Int)) fun r6 => some (r6.1, ())) (some (false, ()))) (some (false, ())))))
/-- loop.example/g01021/spec.l03Flow -/
def spec_l03Flow (F : Nat) (x0 : El (.int .i64)) : Option (Outs [(.bool, .no)]) :=
  obind (spec_l00In F x0 (-100000 : Int) (100000 : Int)) fun r1 => some (r1.1, ())
abbrev spec_l07Flows_l0s : List Sh := [.val (.ptr TiSqsiiiiiip) .no, .val (.sl (.int .i64)) .no, .dead, .dead, .dead, .val (.int .i64) .no, .dead, .dead, .dead, .dead, .dead, .dead, .dead, .dead, .dead, .dead, .dead, .dead, .dead, .dead, .dead, .dead, .dead, .dead, .dead, .dead]
abbrev spec_l07Flows_l0o : List (Ex × List Sh) := [(.ret, [.dead, .dead, .dead, .dead, .val .bool .no, .dead, .dead, .dead, .dead, .dead, .dead, .dead, .dead, .dead, .dead, .dead, .dead, .dead, .dead, .dead, .dead, .dead, .dead, .dead, .dead, .dead]), (.exit 0, [.val (.ptr TiSqsiiiiiip) .no, .val (.sl (.int .i64)) .no, .dead, .dead, .dead, .dead, .dead, .dead, .dead, .dead, .dead, .dead, .dead, .dead, .dead, .dead, .dead, .dead, .dead, .dead, .dead, .dead, .dead, .dead, .dead, .dead])]
def spec_l07Flows_l0_step {β : Type} (F : Nat) (k0 : El .bool × Unit → Option β) (k1 : El (.ptr TiSqsiiiiiip) × El (.sl (.int .i64)) × Unit → Option β) (rec : El (.ptr TiSqsiiiiiip) × El (.sl (.int .i64)) × El (.int .i64) × Unit → Option β) (x : El (.ptr TiSqsiiiiiip) × El (.sl (.int .i64)) × El (.int .i64) × Unit) : Option β :=
  cond (decide (x.2.2.1 < (x.2.1.length : Int))) (obind (rdAt x.2.1 x.2.2.1) fun v1 => obind (spec_l03Flow F v1) fun r2 => cond (!r2.1) (k0 (false, ())) (rec (x.1, x.2.1, IntKind.i64.wrap (x.2.2.1 + (1 : Int)), ()))) (k1 (x.1, x.2.1, ()))
def spec_l07Flows_l0 (F : Nat) : LoopFn where
  n := 26
  sh := spec_l07Flows_l0s
  outs := spec_l07Flows_l0o
  es := [.ret, .exit 0]
  step := fun rec K x => spec_l07Flows_l0_step F K.1 K.2.1 rec x
/-- loop.example/g01021/spec.l07Flows -/
def spec_l07Flows (F : Nat) (x0 : El (.ptr TiSqsiiiiiip)) (x1 : El (.sl (.int .i64))) : Option (Outs [(.bool, .no)]) :=
  runP (spec_l07Flows_l0_step F (fun y3 => some (y3.1, ())) (fun y3 => some (((y3.2.1.length : Int) == (y3.1.2.1.length : Int)), ()))) none F (x0, x1, (0 : Int), ())
/-- loop.example/g01021/spec.l21One -/
def spec_l21One (F : Nat) (x0 : El (.ptr Tiii)) : Option (Outs [(.bool, .no)]) :=
  obind (spec_l00In F x0.1 (0 : Int) (23 : Int)) fun r1 => cond r1.1 (obind (spec_l03Flow F x0.2.1) fun r2 => cond r2.1 (obind (spec_l00In F x0.2.2.1 x0.2.1 (100000 : Int)) fun r3 => some (r3.1, ())) (some (false, ()))) (some (false, ()))
abbrev spec_l21Wants_l0s : List Sh := [.val (.ptr TiSqsiiiiiip) .no, .val (.sl Tiii) .no, .dead, .dead, .dead, .val (.int .i64) .no, .dead, .dead, .dead, .dead, .dead, .dead, .dead, .dead, .dead, .dead, .dead, .dead, .dead, .dead, .dead, .dead, .dead, .dead, .dead, .dead, .dead, .dead, .dead, .dead, .dead, .dead, .dead]
abbrev spec_l21Wants_l0o : List (Ex × List Sh) := [(.ret, [.dead, .dead, .dead, .dead, .val .bool .no, .dead, .dead, .dead, .dead, .dead, .dead, .dead, .dead, .dead, .dead, .dead, .dead, .dead, .dead, .dead, .dead, .dead, .dead, .dead, .dead, .dead, .dead, .dead, .dead, .dead, .dead, .dead, .dead]), (.exit 0, [.dead, .val (.sl Tiii) .no, .dead, .dead, .dead, .dead, .dead, .dead, .dead, .dead, .dead, .dead, .dead, .dead, .dead, .dead, .dead, .dead, .dead, .dead, .dead, .dead, .dead, .dead, .dead, .dead, .dead, .dead, .dead, .dead, .dead, .dead, .dead])]
def spec_l21Wants_l0_step {β : Type} (F : Nat) (k0 : El .bool × Unit → Option β) (k1 : El (.sl Tiii) × Unit → Option β) (rec : El (.ptr TiSqsiiiiiip) × El (.sl Tiii) × El (.int .i64) × Unit → Option β) (x : El (.ptr TiSqsiiiiiip) × El (.sl Tiii) × El (.int .i64) × Unit) : Option β :=
  cond (decide (x.2.2.1 < (x.2.1.length : Int))) (obind (rdAt x.2.1 x.2.2.1) fun v1 => obind (spec_l21One F v1) fun r2 => cond (!r2.1) (k0 (false, ())) (obind (rdAt x.2.1 x.2.2.1) fun v3 => cond (decide (v3.1 ≥ (x.1.2.1.length : Int))) (k0 (false, ())) (rec (x.1, x.2.1, IntKind.i64.wrap (x.2.2.1 + (1 : Int)), ())))) (k1 (x.2.1, ()))
def spec_l21Wants_l0 (F : Nat) : LoopFn where
  n := 33
  sh := spec_l21Wants_l0s
  outs := spec_l21Wants_l0o
  es := [.ret, .exit 0]
  step := fun rec K x => spec_l21Wants_l0_step F K.1 K.2.1 rec x
/-- loop.example/g01021/spec.l21Wants -/
def spec_l21Wants (F : Nat) (x0 : El (.ptr TiSqsiiiiiip)) (x1 : El (.sl Tiii)) : Option (Outs [(.bool, .no)]) :=
  runP (spec_l21Wants_l0_step F (fun y4 => some (y4.1, ())) (fun y4 => some (decide ((y4.1.length : Int) ≤ (12 : Int)), ()))) none F (x0, x1, (0 : Int), ())
/-- loop.example/g01021/spec.l13One -/
def spec_l13One (F : Nat) (x0 : El (.ptr Tsii)) : Option (Outs [(.bool, .no)]) :=
  obind (spec_l01Name F x0.1) fun r1 => cond r1.1 (obind (spec_l00In F x0.2.1 (0 : Int) (23 : Int)) fun r2 => cond r2.1 (obind (spec_l00In F x0.2.2.1 (0 : Int) (10000000 : Int)) fun r3 => some (r3.1, ())) (some (false, ()))) (some (false, ()))
abbrev spec_l13List_l0s : List Sh := [.val (.ptr TiSqsiiiiiip) .no, .val (.sl Tsii) .no, .dead, .dead, .dead, .val (.int .i64) .no, .dead, .dead, .dead, .dead, .dead, .dead, .dead, .dead, .dead, .dead, .dead, .dead, .dead, .dead, .dead, .dead, .dead, .dead, .dead, .dead, .dead, .dead, .dead, .dead, .dead, .dead, .dead, .dead, .dead, .dead, .dead, .dead, .dead, .dead, .dead, .dead, .dead, .dead, .dead, .dead, .dead, .dead, .dead, .dead, .dead]
abbrev spec_l13List_l0o : List (Ex × List Sh) := [(.ret, [.dead, .dead, .dead, .dead, .val .bool .no, .dead, .dead, .dead, .dead, .dead, .dead, .dead, .dead, .dead, .dead, .dead, .dead, .dead, .dead, .dead, .dead, .dead, .dead, .dead, .dead, .dead, .dead, .dead, .dead, .dead, .dead, .dead, .dead, .dead, .dead, .dead, .dead, .dead, .dead, .dead, .dead, .dead, .dead, .dead, .dead, .dead, .dead, .dead, .dead, .dead, .dead]), (.exit 0, [.dead, .val (.sl Tsii) .no, .dead, .dead, .dead, .dead, .dead, .dead, .dead, .dead, .dead, .dead, .dead, .dead, .dead, .dead, .dead, .dead, .dead, .dead, .dead, .dead, .dead, .dead, .dead, .dead, .dead, .dead, .dead, .dead, .dead, .dead, .dead, .dead, .dead, .dead, .dead, .dead, .dead, .dead, .dead, .dead, .dead, .dead, .dead, .dead, .dead, .dead, .dead, .dead, .dead])]
def spec_l13List_l0_step {β : Type} (F : Nat) (k0 : El .bool × Unit → Option β) (k1 : El (.sl Tsii) × Unit → Option β) (rec : El (.ptr TiSqsiiiiiip) × El (.sl Tsii) × El (.int .i64) × Unit → Option β) (x : El (.ptr TiSqsiiiiiip) × El (.sl Tsii) × El (.int .i64) × Unit) : Option β :=
  cond (decide (x.2.2.1 < (x.2.1.length : Int))) (obind (rdAt x.2.1 x.2.2.1) fun v1 => obind (spec_l13One F v1) fun r2 => cond (!r2.1) (k0 (false, ())) (obind (rdAt x.2.1 x.2.2.1) fun v3 => cond (decide (v3.2.1 ≥ (x.1.2.1.length : Int))) (k0 (false, ())) (cond (decide (x.2.2.1 > (0 : Int))) (obind (rdAt x.2.1 (IntKind.i64.wrap (x.2.2.1 - (1 : Int)))) fun v4 => obind (rdAt x.2.1 x.2.2.1) fun v5 => cond (!(Op.bytesLess v4.1.toList v5.1.toList)) (k0 (false, ())) (rec (x.1, x.2.1, IntKind.i64.wrap (x.2.2.1 + (1 : Int)), ()))) (rec (x.1, x.2.1, IntKind.i64.wrap (x.2.2.1 + (1 : Int)), ()))))) (k1 (x.2.1, ()))
def spec_l13List_l0 (F : Nat) : LoopFn where
  n := 51
  sh := spec_l13List_l0s
  outs := spec_l13List_l0o
  es := [.ret, .exit 0]
  step := fun rec K x => spec_l13List_l0_step F K.1 K.2.1 rec x
/-- loop.example/g01021/spec.l13List -/
def spec_l13List (F : Nat) (x0 : El (.ptr TiSqsiiiiiip)) (x1 : El (.sl Tsii)) : Option (Outs [(.bool, .no)]) :=
  runP (spec_l13List_l0_step F (fun y6 => some (y6.1, ())) (fun y6 => some (decide ((y6.1.length : Int) ≤ (8 : Int)), ()))) none F (x0, x1, (0 : Int), ())
/-- loop.example/g01021/spec.l23One -/
def spec_l23One (F : Nat) (x0 : El (.ptr Tsiii)) : Option (Outs [(.bool, .no)]) :=
  obind (spec_l01Name F x0.1) fun r1 => cond r1.1 (obind (spec_l00In F x0.2.1 (0 : Int) (23 : Int)) fun r2 => cond r2.1 (obind (spec_l00In F x0.2.2.1 (1 : Int) (40 : Int)) fun r3 => cond r3.1 (obind (spec_l00In F x0.2.2.2.1 (0 : Int) (500 : Int)) fun r4 => some (r4.1, ())) (some (false, ()))) (some (false, ()))) (some (false, ()))
abbrev spec_l23List_l0s : List Sh := [.val (.ptr TiSqsiiiiiip) .no, .val (.sl Tsiii) .no, .dead, .dead, .dead, .val (.int .i64) .no, .dead, .dead, .dead, .dead, .dead, .dead, .dead, .dead, .dead, .dead, .dead, .dead, .dead, .dead, .dead, .dead, .dead, .dead, .dead, .dead, .dead, .dead, .dead, .dead, .dead, .dead, .dead, .dead, .dead, .dead, .dead, .dead, .dead, .dead, .dead, .dead, .dead, .dead, .dead, .dead, .dead, .dead, .dead, .dead, .dead]
abbrev spec_l23List_l0o : List (Ex × List Sh) := [(.ret, [.dead, .dead, .dead, .dead, .val .bool .no, .dead, .dead, .dead, .dead, .dead, .dead, .dead, .dead, .dead, .dead, .dead, .dead, .dead, .dead, .dead, .dead, .dead, .dead, .dead, .dead, .dead, .dead, .dead, .dead, .dead, .dead, .dead, .dead, .dead, .dead, .dead, .dead, .dead, .dead, .dead, .dead, .dead, .dead, .dead, .dead, .dead, .dead, .dead, .dead, .dead, .dead]), (.exit 0, [.dead, .val (.sl Tsiii) .no, .dead, .dead, .dead, .dead, .dead, .dead, .dead, .dead, .dead, .dead, .dead, .dead, .dead, .dead, .dead, .dead, .dead, .dead, .dead, .dead, .dead, .dead, .dead, .dead, .dead, .dead, .dead, .dead, .dead, .dead, .dead, .dead, .dead, .dead, .dead, .dead, .dead, .dead, .dead, .dead, .dead, .dead, .dead, .dead, .dead, .dead, .dead, .dead, .dead])]
def spec_l23List_l0_step {β : Type} (F : Nat) (k0 : El .bool × Unit → Option β) (k1 : El (.sl Tsiii) × Unit → Option β) (rec : El (.ptr TiSqsiiiiiip) × El (.sl Tsiii) × El (.int .i64) × Unit → Option β) (x : El (.ptr TiSqsiiiiiip) × El (.sl Tsiii) × El (.int .i64) × Unit) : Option β :=
  cond (decide (x.2.2.1 < (x.2.1.length : Int))) (obind (rdAt x.2.1 x.2.2.1) fun v1 => obind (spec_l23One F v1) fun r2 => cond (!r2.1) (k0 (false, ())) (obind (rdAt x.2.1 x.2.2.1) fun v3 => cond (decide (v3.2.1 ≥ (x.1.2.1.length : Int))) (k0 (false, ())) (cond (decide (x.2.2.1 > (0 : Int))) (obind (rdAt x.2.1 (IntKind.i64.wrap (x.2.2.1 - (1 : Int)))) fun v4 => obind (rdAt x.2.1 x.2.2.1) fun v5 => cond (!(Op.bytesLess v4.1.toList v5.1.toList)) (k0 (false, ())) (rec (x.1, x.2.1, IntKind.i64.wrap (x.2.2.1 + (1 : Int)), ()))) (rec (x.1, x.2.1, IntKind.i64.wrap (x.2.2.1 + (1 : Int)), ()))))) (k1 (x.2.1, ()))
def spec_l23List_l0 (F : Nat) : LoopFn where
  n := 51
  sh := spec_l23List_l0s
  outs := spec_l23List_l0o
  es := [.ret, .exit 0]
  step := fun rec K x => spec_l23List_l0_step F K.1 K.2.1 rec x
/-- loop.example/g01021/spec.l23List -/
def spec_l23List (F : Nat) (x0 : El (.ptr TiSqsiiiiiip)) (x1 : El (.sl Tsiii)) : Option (Outs [(.bool, .no)]) :=
  runP (spec_l23List_l0_step F (fun y6 => some (y6.1, ())) (fun y6 => some (decide ((y6.1.length : Int) ≤ (12 : Int)), ()))) none F (x0, x1, (0 : Int), ())
/-- loop.example/g01021/spec.l19One -/
def spec_l19One (F : Nat) (x0 : El (.ptr Tsii)) : Option (Outs [(.bool, .no)]) :=
  obind (spec_l01Name F x0.1) fun r1 => cond r1.1 (obind (spec_l00In F x0.2.1 (0 : Int) (15 : Int)) fun r2 => cond r2.1 (obind (spec_l00In F x0.2.2.1 (10 : Int) (300 : Int)) fun r3 => some (r3.1, ())) (some (false, ()))) (some (false, ()))
abbrev spec_l19List_l0s : List Sh := [.val (.ptr TiSqsiiiiiip) .no, .val (.sl Tsii) .no, .dead, .dead, .dead, .val (.int .i64) .no, .dead, .dead, .dead, .dead, .dead, .dead, .dead, .dead, .dead, .dead, .dead, .dead, .dead, .dead, .dead, .dead, .dead, .dead, .dead, .dead, .dead, .dead, .dead, .dead, .dead, .dead, .dead, .dead, .dead, .dead, .dead, .dead, .dead, .dead, .dead, .dead, .dead, .dead, .dead, .dead, .dead, .dead, .dead, .dead]
abbrev spec_l19List_l0o : List (Ex × List Sh) := [(.ret, [.dead, .dead, .dead, .dead, .val .bool .no, .dead, .dead, .dead, .dead, .dead, .dead, .dead, .dead, .dead, .dead, .dead, .dead, .dead, .dead, .dead, .dead, .dead, .dead, .dead, .dead, .dead, .dead, .dead, .dead, .dead, .dead, .dead, .dead, .dead, .dead, .dead, .dead, .dead, .dead, .dead, .dead, .dead, .dead, .dead, .dead, .dead, .dead, .dead, .dead, .dead]), (.exit 0, [.dead, .val (.sl Tsii) .no, .dead, .dead, .dead, .dead, .dead, .dead, .dead, .dead, .dead, .dead, .dead, .dead, .dead, .dead, .dead, .dead, .dead, .dead, .dead, .dead, .dead, .dead, .dead, .dead, .dead, .dead, .dead, .dead, .dead, .dead, .dead, .dead, .dead, .dead, .dead, .dead, .dead, .dead, .dead, .dead, .dead, .dead, .dead, .dead, .dead, .dead, .dead, .dead])]
def spec_l19List_l0_step {β : Type} (F : Nat) (k0 : El .bool × Unit → Option β) (k1 : El (.sl Tsii) × Unit → Option β) (rec : El (.ptr TiSqsiiiiiip) × El (.sl Tsii) × El (.int .i64) × Unit → Option β) (x : El (.ptr TiSqsiiiiiip) × El (.sl Tsii) × El (.int .i64) × Unit) : Option β :=
  cond (decide (x.2.2.1 < (x.2.1.length : Int))) (obind (rdAt x.2.1 x.2.2.1) fun v1 => obind (spec_l19One F v1) fun r2 => cond (!r2.1) (k0 (false, ())) (obind (rdAt x.2.1 x.2.2.1) fun v3 => cond (decide (v3.2.1 ≥ x.1.1)) (k0 (false, ())) (cond (decide (x.2.2.1 > (0 : Int))) (obind (rdAt x.2.1 (IntKind.i64.wrap (x.2.2.1 - (1 : Int)))) fun v4 => obind (rdAt x.2.1 x.2.2.1) fun v5 => cond (!(Op.bytesLess v4.1.toList v5.1.toList)) (k0 (false, ())) (rec (x.1, x.2.1, IntKind.i64.wrap (x.2.2.1 + (1 : Int)), ()))) (rec (x.1, x.2.1, IntKind.i64.wrap (x.2.2.1 + (1 : Int)), ()))))) (k1 (x.2.1, ()))
def spec_l19List_l0 (F : Nat) : LoopFn where
  n := 50
  sh := spec_l19List_l0s
  outs := spec_l19List_l0o
  es := [.ret, .exit 0]
  step := fun rec K x => spec_l19List_l0_step F K.1 K.2.1 rec x
/-- loop.example/g01021/spec.l19List -/
def spec_l19List (F : Nat) (x0 : El (.ptr TiSqsiiiiiip)) (x1 : El (.sl Tsii)) : Option (Outs [(.bool, .no)]) :=
  runP (spec_l19List_l0_step F (fun y6 => some (y6.1, ())) (fun y6 => some (decide ((y6.1.length : Int) ≤ (8 : Int)), ()))) none F (x0, x1, (0 : Int), ())
abbrev spec_l00Rises_l0s : List Sh := [.val (.sl (.int .i64)) .no, .val (.int .i64) .no, .val (.int .i64) .no, .dead, .dead, .dead, .dead, .val (.int .i64) .no, .dead, .dead, .dead, .dead, .dead, .dead, .dead, .dead, .dead, .dead, .dead, .dead, .dead, .dead, .dead, .dead, .dead, .dead, .dead, .dead, .dead, .dead, .dead, .dead, .dead, .dead, .dead, .dead, .dead, .dead]
abbrev spec_l00Rises_l0o : List (Ex × List Sh) := [(.ret, [.dead, .dead, .dead, .dead, .dead, .dead, .val .bool .no, .dead, .dead, .dead, .dead, .dead, .dead, .dead, .dead, .dead, .dead, .dead, .dead, .dead, .dead, .dead, .dead, .dead, .dead, .dead, .dead, .dead, .dead, .dead, .dead, .dead, .dead, .dead, .dead, .dead, .dead, .dead]), (.exit 0, [.dead, .dead, .dead, .dead, .dead, .dead, .dead, .dead, .dead, .dead, .dead, .dead, .dead, .dead, .dead, .dead, .dead, .dead, .dead, .dead, .dead, .dead, .dead, .dead, .dead, .dead, .dead, .dead, .dead, .dead, .dead, .dead, .dead, .dead, .dead, .dead, .dead, .dead])]
def spec_l00Rises_l0_step {β : Type} (F : Nat) (k0 : El .bool × Unit → Option β) (k1 : Unit → Option β) (rec : El (.sl (.int .i64)) × El (.int .i64) × El (.int .i64) × El (.int .i64) × Unit → Option β) (x : El (.sl (.int .i64)) × El (.int .i64) × El (.int .i64) × El (.int .i64) × Unit) : Option β :=
  cond (decide (x.2.2.2.1 < (x.1.length : Int))) (obind (rdAt x.1 x.2.2.2.1) fun v1 => obind (spec_l00In F v1 x.2.1 x.2.2.1) fun r2 => cond (!r2.1) (k0 (false, ())) (cond (decide (x.2.2.2.1 > (0 : Int))) (obind (rdAt x.1 (IntKind.i64.wrap (x.2.2.2.1 - (1 : Int)))) fun v3 => obind (rdAt x.1 x.2.2.2.1) fun v4 => cond (decide (v3 ≥ v4)) (k0 (false, ())) (rec (x.1, x.2.1, x.2.2.1, IntKind.i64.wrap (x.2.2.2.1 + (1 : Int)), ()))) (rec (x.1, x.2.1, x.2.2.1, IntKind.i64.wrap (x.2.2.2.1 + (1 : Int)), ())))) (k1 (()))
def spec_l00Rises_l0 (F : Nat) : LoopFn where
  n := 38
  sh := spec_l00Rises_l0s
  outs := spec_l00Rises_l0o
  es := [.ret, .exit 0]
  step := fun rec K x => spec_l00Rises_l0_step F K.1 K.2.1 rec x
/-- loop.example/g01021/spec.l00Rises -/
def spec_l00Rises (F : Nat) (x0 : El (.sl (.int .i64))) (x1 : El (.int .i64)) (x2 : El (.int .i64)) : Option (Outs [(.bool, .no)]) :=
  runP (spec_l00Rises_l0_step F (fun y5 => some (y5.1, ())) (fun y5 => some (true, ()))) none F (x0, x1, x2, (0 : Int), ())
abbrev spec_l01Root_l0s : List Sh := [.val (.int .i64) .no, .dead, .dead, .val (.int .i64) .no, .val (.int .i64) .no, .dead, .dead, .dead, .dead, .dead, .dead, .dead, .dead, .dead, .dead, .dead, .dead, .dead, .dead, .dead, .dead, .dead, .dead]
abbrev spec_l01Root_l0o : List (Ex × List Sh) := [(.exit 0, [.dead, .dead, .dead, .val (.int .i64) .no, .dead, .dead, .dead, .dead, .dead, .dead, .dead, .dead, .dead, .dead, .dead, .dead, .dead, .dead, .dead, .dead, .dead, .dead, .dead])]
def spec_l01Root_l0_step {β : Type} (F : Nat) (k0 : El (.int .i64) × Unit → Option β) (rec : El (.int .i64) × El (.int .i64) × El (.int .i64) × Unit → Option β) (x : El (.int .i64) × El (.int .i64) × El (.int .i64) × Unit) : Option β :=
  cond (decide (x.2.1 < x.2.2.1)) (cond (decide ((IntKind.i64.wrap ((IntKind.i64.wrap ((IntKind.i64.wrap ((IntKind.i64.wrap (x.2.1 + x.2.2.1)) + (1 : Int))).tdiv (2 : Int))) * (IntKind.i64.wrap ((IntKind.i64.wrap ((IntKind.i64.wrap (x.2.1 + x.2.2.1)) + (1 : Int))).tdiv (2 : Int))))) ≤ x.1)) (rec (x.1, IntKind.i64.wrap ((IntKind.i64.wrap ((IntKind.i64.wrap (x.2.1 + x.2.2.1)) + (1 : Int))).tdiv (2 : Int)), x.2.2.1, ())) (rec (x.1, x.2.1, IntKind.i64.wrap ((IntKind.i64.wrap ((IntKind.i64.wrap ((IntKind.i64.wrap (x.2.1 + x.2.2.1)) + (1 : Int))).tdiv (2 : Int))) - (1 : Int)), ()))) (k0 (x.2.1, ()))
def spec_l01Root_l0 (F : Nat) : LoopFn where
  n := 23
  sh := spec_l01Root_l0s
  outs := spec_l01Root_l0o
  es := [.exit 0]
  step := fun rec K x => spec_l01Root_l0_step F K.1 rec x
/-- loop.example/g01021/spec.l01Root -/
def spec_l01Root (F : Nat) (x0 : El (.int .i64)) : Option (Outs [((.int .i64), .no)]) :=
  runP (spec_l01Root_l0_step F (fun y1 => some (y1.1, ()))) none F (x0, (0 : Int), (3037000499 : Int), ())
/-- loop.example/g01021/spec.l01Div -/
def spec_l01Div (F : Nat) (x0 : El (.int .i64)) (x1 : El (.int .i64)) : Option (Outs [((.int .i64), .no)]) :=
  cond (decide (x1 < (0 : Int))) (cond (decide ((IntKind.i64.wrap (0 - x0)) < (0 : Int))) (guardB (!((IntKind.i64.wrap ((2 : Int) * (IntKind.i64.wrap (0 - x1)))) == 0)) (some (IntKind.i64.wrap (0 - (IntKind.i64.wrap ((IntKind.i64.wrap ((IntKind.i64.wrap (0 - x1)) - (IntKind.i64.wrap ((2 : Int) * (IntKind.i64.wrap (0 - x0)))))).tdiv (IntKind.i64.wrap ((2 : Int) * (IntKind.i64.wrap (0 - x1))))))), ()))) (guardB (!((IntKind.i64.wrap ((2 : Int) * (IntKind.i64.wrap (0 - x1)))) == 0)) (some (IntKind.i64.wrap ((IntKind.i64.wrap ((IntKind.i64.wrap ((2 : Int) * (IntKind.i64.wrap (0 - x0)))) + (IntKind.i64.wrap (0 - x1)))).tdiv (IntKind.i64.wrap ((2 : Int) * (IntKind.i64.wrap (0 - x1))))), ())))) (cond (decide (x0 < (0 : Int))) (guardB (!((IntKind.i64.wrap ((2 : Int) * x1)) == 0)) (some (IntKind.i64.wrap (0 - (IntKind.i64.wrap ((IntKind.i64.wrap (x1 - (IntKind.i64.wrap ((2 : Int) * x0)))).tdiv (IntKind.i64.wrap ((2 : Int) * x1))))), ()))) (guardB (!((IntKind.i64.wrap ((2 : Int) * x1)) == 0)) (some (IntKind.i64.wrap ((IntKind.i64.wrap ((IntKind.i64.wrap ((2 : Int) * x0)) + x1)).tdiv (IntKind.i64.wrap ((2 : Int) * x1))), ()))))
/-- loop.example/g01021/spec.l03Raw -/
def spec_l03Raw (F : Nat) (x0 : El (.ptr Tsiiiiii)) (x1 : El (.int .i64)) : Option (Outs [((.int .i64), .no)]) :=
  obind (spec_l01Root F (IntKind.i64.wrap (x1 * (10000 : Int)))) fun r1 => obind (spec_l01Div F (IntKind.i64.wrap ((IntKind.i64.wrap ((IntKind.i64.wrap (x0.2.2.2.2.2.1 * (IntKind.i64.wrap (x0.2.2.2.1 + x0.2.2.2.2.2.2.1)))) * r1.1)) * (400000 : Int))) (IntKind.i64.wrap ((IntKind.i64.wrap (x1 * x1)) * x1))) fun r2 => some (r2.1, ())
/-- loop.example/g01021/spec.l00Max -/
def spec_l00Max (F : Nat) (x0 : El (.int .i64)) (x1 : El (.int .i64)) : Option (Outs [((.int .i64), .no)]) :=
  cond (decide (x0 > x1)) (some (x0, ())) (some (x1, ()))
/-- loop.example/g01021/spec.l03Resistance -/
def spec_l03Resistance (F : Nat) (x0 : El (.ptr Tsiiiiii)) : Option (Outs [((.int .i64), .no), ((.int .i64), .no)]) :=
  obind (spec_l03Raw F x0 x0.2.2.2.2.1) fun r1 => obind (spec_l00Max F (1 : Int) r1.1) fun r2 => cond (decide (r2.1 > (1000000 : Int))) (some ((0 : Int), (6 : Int), ())) (some (r2.1, (0 : Int), ()))
abbrev spec_l10Resistances_l1s : List Sh := [.val (.ptr TiSqsiiiiiip) .no, .val (.sl Tsiii) .no, .val (.sl .bool) .no, .dead, .dead, .dead, .dead, .dead, .val (.sl (.int .i64)) (.own none .no), .val (.int .i64) .no, .val (.int .i64) .no, .dead, .val (.int .i64) .no, .dead, .dead, .dead, .dead, .dead, .dead, .dead, .dead, .dead, .dead, .dead, .dead, .dead, .dead, .dead, .dead, .dead, .dead, .dead, .dead, .dead, .dead, .dead, .dead, .dead, .dead, .dead, .dead, .dead, .dead, .dead, .dead, .dead, .dead, .dead, .dead, .dead, .dead, .dead, .dead, .dead, .dead, .dead, .dead, .dead, .dead, .dead, .dead, .dead, .dead, .dead, .dead, .dead, .dead, .dead, .dead, .dead, .dead, .dead, .dead]
abbrev spec_l10Resistances_l1o : List (Ex × List Sh) := [(.exit 2, [.val (.ptr TiSqsiiiiiip) .no, .val (.sl Tsiii) .no, .val (.sl .bool) .no, .dead, .dead, .dead, .dead, .dead, .val (.sl (.int .i64)) (.own none .no), .val (.int .i64) .no, .val (.int .i64) .no, .dead, .dead, .dead, .dead, .dead, .dead, .dead, .dead, .dead, .dead, .dead, .dead, .dead, .dead, .dead, .dead, .dead, .dead, .dead, .dead, .dead, .dead, .dead, .dead, .dead, .dead, .dead, .dead, .dead, .dead, .dead, .dead, .dead, .dead, .dead, .dead, .dead, .dead, .dead, .dead, .dead, .dead, .dead, .dead, .dead, .dead, .dead, .dead, .dead, .dead, .dead, .dead, .dead, .dead, .dead, .dead, .dead, .dead, .dead, .dead, .dead, .dead])]
def spec_l10Resistances_l1_step {β : Type} (F : Nat) (k0 : El (.ptr TiSqsiiiiiip) × El (.sl Tsiii) × El (.sl .bool) × El (.sl (.int .i64)) × El (.int .i64) × El (.int .i64) × Unit → Option β) (rec : El (.ptr TiSqsiiiiiip) × El (.sl Tsiii) × El (.sl .bool) × El (.sl (.int .i64)) × El (.int .i64) × El (.int .i64) × El (.int .i64) × Unit → Option β) (x : El (.ptr TiSqsiiiiiip) × El (.sl Tsiii) × El (.sl .bool) × El (.sl (.int .i64)) × El (.int .i64) × El (.int .i64) × El (.int .i64) × Unit) : Option β :=
  cond (decide (x.2.2.2.2.2.2.1 < (x.2.1.length : Int))) (obind (rdAt x.2.1 x.2.2.2.2.2.2.1) fun v3 => cond (v3.2.1 != x.2.2.2.2.1) (rec (x.1, x.2.1, x.2.2.1, x.2.2.2.1, x.2.2.2.2.1, x.2.2.2.2.2.1, IntKind.i64.wrap (x.2.2.2.2.2.2.1 + (1 : Int)), ())) (obind (rdAt x.2.2.1 x.2.2.2.2.2.2.1) fun v4 => cond v4 (obind (rdAt x.2.1 x.2.2.2.2.2.2.1) fun v5 => rec (x.1, x.2.1, x.2.2.1, x.2.2.2.1, x.2.2.2.2.1, IntKind.i64.wrap (x.2.2.2.2.2.1 + v5.2.2.1), IntKind.i64.wrap (x.2.2.2.2.2.2.1 + (1 : Int)), ())) (obind (rdAt x.2.1 x.2.2.2.2.2.2.1) fun v6 => rec (x.1, x.2.1, x.2.2.1, x.2.2.2.1, x.2.2.2.2.1, IntKind.i64.wrap (x.2.2.2.2.2.1 + v6.2.2.2.1), IntKind.i64.wrap (x.2.2.2.2.2.2.1 + (1 : Int)), ())))) (k0 (x.1, x.2.1, x.2.2.1, x.2.2.2.1, x.2.2.2.2.1, x.2.2.2.2.2.1, ()))
def spec_l10Resistances_l1 (F : Nat) : LoopFn where
  n := 73
  sh := spec_l10Resistances_l1s
  outs := spec_l10Resistances_l1o
  es := [.exit 2]
  step := fun rec K x => spec_l10Resistances_l1_step F K.1 rec x
abbrev spec_l10Resistances_l0s : List Sh := [.val (.ptr TiSqsiiiiiip) .no, .val (.sl Tsiii) .no, .val (.sl .bool) .no, .dead, .dead, .dead, .dead, .dead, .val (.sl (.int .i64)) (.own none .no), .val (.int .i64) .no, .dead, .dead, .dead, .dead, .dead, .dead, .dead, .dead, .dead, .dead, .dead, .dead, .dead, .dead, .dead, .dead, .dead, .dead, .dead, .dead, .dead, .dead, .dead, .dead, .dead, .dead, .dead, .dead, .dead, .dead, .dead, .dead, .dead, .dead, .dead, .dead, .dead, .dead, .dead, .dead, .dead, .dead, .dead, .dead, .dead, .dead, .dead, .dead, .dead, .dead, .dead, .dead, .dead, .dead, .dead, .dead, .dead, .dead, .dead, .dead, .dead, .dead, .dead]
abbrev spec_l10Resistances_l0o : List (Ex × List Sh) := [(.ret, [.dead, .dead, .dead, .dead, .dead, .dead, .val (.sl (.int .i64)) (.own none .no), .val (.int .i64) .no, .dead, .dead, .dead, .dead, .dead, .dead, .dead, .dead, .dead, .dead, .dead, .dead, .dead, .dead, .dead, .dead, .dead, .dead, .dead, .dead, .dead, .dead, .dead, .dead, .dead, .dead, .dead, .dead, .dead, .dead, .dead, .dead, .dead, .dead, .dead, .dead, .dead, .dead, .dead, .dead, .dead, .dead, .dead, .dead, .dead, .dead, .dead, .dead, .dead, .dead, .dead, .dead, .dead, .dead, .dead, .dead, .dead, .dead, .dead, .dead, .dead, .dead, .dead, .dead, .dead]), (.exit 0, [.dead, .dead, .dead, .dead, .dead, .dead, .dead, .dead, .val (.sl (.int .i64)) (.own none .no), .dead, .dead, .dead, .dead, .dead, .dead, .dead, .dead, .dead, .dead, .dead, .dead, .dead, .dead, .dead, .dead, .dead, .dead, .dead, .dead, .dead, .dead, .dead, .dead, .dead, .dead, .dead, .dead, .dead, .dead, .dead, .dead, .dead, .dead, .dead, .dead, .dead, .dead, .dead, .dead, .dead, .dead, .dead, .dead, .dead, .dead, .dead, .dead, .dead, .dead, .dead, .dead, .dead, .dead, .dead, .dead, .dead, .dead, .dead, .dead, .dead, .dead, .dead, .dead])]
def spec_l10Resistances_l0_step {β : Type} (F : Nat) (k0 : El (.sl (.int .i64)) × El (.int .i64) × Unit → Option β) (k1 : El (.sl (.int .i64)) × Unit → Option β) (rec : El (.ptr TiSqsiiiiiip) × El (.sl Tsiii) × El (.sl .bool) × El (.sl (.int .i64)) × El (.int .i64) × Unit → Option β) (x : El (.ptr TiSqsiiiiiip) × El (.sl Tsiii) × El (.sl .bool) × El (.sl (.int .i64)) × El (.int .i64) × Unit) : Option β :=
  cond (decide (x.2.2.2.2.1 < (x.1.2.1.length : Int))) (obind (rdAt x.1.2.1 x.2.2.2.2.1) fun v1 => obind (spec_l03Resistance F v1) fun r2 => cond (r2.2.1 != (0 : Int)) (k0 ([], (6 : Int), ())) (runP (spec_l10Resistances_l1_step F (fun y7 => cond (decide (y7.2.2.2.2.2.1 > (1000000 : Int))) (k0 ([], (6 : Int), ())) (guardB (decide ((y7.2.2.2.1.length + ([y7.2.2.2.2.2.1]).length) * 8 ≤ 140737488355328)) (rec (y7.1, y7.2.1, y7.2.2.1, y7.2.2.2.1 ++ ([y7.2.2.2.2.2.1]), IntKind.i64.wrap (y7.2.2.2.2.1 + (1 : Int)), ()))))) none F (x.1, x.2.1, x.2.2.1, x.2.2.2.1, x.2.2.2.2.1, r2.1, (0 : Int), ()))) (k1 (x.2.2.2.1, ()))
def spec_l10Resistances_l0 (F : Nat) : LoopFn where
  n := 73
  sh := spec_l10Resistances_l0s
  outs := spec_l10Resistances_l0o
  es := [.ret, .exit 0]
  step := fun rec K x => spec_l10Resistances_l0_step F K.1 K.2.1 rec x
/-- loop.example/g01021/spec.l10Resistances -/
def spec_l10Resistances (F : Nat) (x0 : El (.ptr TiSqsiiiiiip)) (x1 : El (.sl Tsiii)) (x2 : El (.sl .bool)) : Option (Outs [((.sl (.int .i64)), (.own none .no)), ((.int .i64), .no)]) :=
  runP (spec_l10Resistances_l0_step F (fun y8 => some (y8.1, y8.2.1, ())) (fun y8 => some (y8.1, (0 : Int), ()))) none F (x0, x1, x2, [], (0 : Int), ())
/-- loop.example/g01021/spec.l17One -/
def spec_l17One (F : Nat) (x0 : El (.ptr Tiii)) : Option (Outs [(.bool, .no)]) :=
  obind (spec_l00In F x0.1 (0 : Int) (23 : Int)) fun r1 => cond r1.1 (obind (spec_l00In F x0.2.1 (0 : Int) (10000 : Int)) fun r2 => cond r2.1 (obind (spec_l00In F x0.2.2.1 (0 : Int) (36000 : Int)) fun r3 => some (r3.1, ())) (some (false, ()))) (some (false, ()))
/-- loop.example/g01021/spec.l17Fire -/
def spec_l17Fire (F : Nat) (x0 : El (.ptr TiSqsiiiiiip)) (x1 : El (.ptr Tiii)) : Option (Outs [(.bool, .no)]) :=
  obind (spec_l17One F x1) fun r1 => cond r1.1 (cond (decide (x1.1 < (x0.2.1.length : Int))) (obind (rdAt x0.2.1 x1.1) fun v2 => some (decide (x1.2.1 ≤ v2.2.2.2.1), ())) (some (false, ()))) (some (false, ()))
/-- loop.example/g01021/spec.l17Time -/
def spec_l17Time (F : Nat) (x0 : El (.int .i64)) : Option (Outs [(.bool, .no)]) :=
  obind (spec_l00In F x0 (0 : Int) (36000 : Int)) fun r1 => some (r1.1, ())
/-- loop.example/g01021/spec.l31Ok -/
def spec_l31Ok (F : Nat) (x0 : El (.ptr Tc66acf8c)) : Option (Outs [(.bool, .no)]) :=
  obind (spec_l21Ok F x0.1) fun r1 => cond (!r1.1) (some (false, ())) (cond ((x0.2.1.length : Int) != (x0.1.2.1.length : Int)) (some (false, ())) (obind (spec_l07Flows F x0.1.1 x0.2.2.1) fun r2 => cond (!r2.1) (some (false, ())) (obind (spec_l21Wants F x0.1.1 x0.2.2.2.1) fun r3 => cond (!r3.1) (some (false, ())) (obind (spec_l13List F x0.1.1 x0.2.2.2.2.1) fun r4 => cond (!r4.1) (some (false, ())) (obind (spec_l00In F x0.2.2.2.2.2.1 (0 : Int) (1000000 : Int)) fun r5 => cond (!r5.1) (some (false, ())) (obind (spec_l23List F x0.1.1 x0.2.2.2.2.2.2.1) fun r6 => cond (!r6.1) (some (false, ())) (obind (spec_l19List F x0.1.1 x0.2.2.2.2.2.2.2.1) fun r7 => cond (!r7.1) (some (false, ())) (obind (spec_l00Rises F x0.2.2.2.2.2.2.2.2.1 (0 : Int) (IntKind.i64.wrap (x0.1.1.1 - (1 : Int)))) fun r8 => cond (!r8.1) (some (false, ())) (obind (spec_l10Resistances F x0.1.1 x0.1.2.1 x0.2.1) fun r9 => cond (r9.2.1 == (0 : Int)) (obind (spec_l17Fire F x0.1.1 x0.2.2.2.2.2.2.2.2.2.1) fun r10 => cond r10.1 (obind (spec_l17Time F x0.2.2.2.2.2.2.2.2.2.2.1) fun r11 => some (r11.1, ())) (some (false, ()))) (some (false, ())))))))))))
/-- loop.example/g01021/spec.l13Start -/
def spec_l13Start (F : Nat) (x0 : El (.ptr Tsiiiiii)) (x1 : El (.int .i64)) : Option (Outs [((.int .i64), .no)]) :=
  cond (decide (x1 > (0 : Int))) (some (x0.2.1, ())) (some (x0.2.2.1, ()))
/-- loop.example/g01021/spec.l03Abs -/
def spec_l03Abs (F : Nat) (x0 : El (.int .i64)) : Option (Outs [((.int .i64), .no)]) :=
  obind (spec_l00Max F x0 (IntKind.i64.wrap (0 - x0))) fun r1 => some (r1.1, ())
abbrev spec_l13Gas_l0s : List Sh := [.val (.sl Tsii) .no, .val (.int .i64) .no, .dead, .dead, .dead, .val (.int .i64) .no, .val (.int .i64) .no, .dead, .dead, .dead, .dead, .dead, .dead, .dead, .dead, .dead, .dead, .dead, .dead, .dead, .dead, .dead, .dead, .dead, .dead, .dead, .dead, .dead]
abbrev spec_l13Gas_l0o : List (Ex × List Sh) := [(.exit 0, [.dead, .dead, .dead, .dead, .dead, .val (.int .i64) .no, .dead, .dead, .dead, .dead, .dead, .dead, .dead, .dead, .dead, .dead, .dead, .dead, .dead, .dead, .dead, .dead, .dead, .dead, .dead, .dead, .dead, .dead])]
def spec_l13Gas_l0_step {β : Type} (F : Nat) (k0 : El (.int .i64) × Unit → Option β) (rec : El (.sl Tsii) × El (.int .i64) × El (.int .i64) × El (.int .i64) × Unit → Option β) (x : El (.sl Tsii) × El (.int .i64) × El (.int .i64) × El (.int .i64) × Unit) : Option β :=
  cond (decide (x.2.2.2.1 < (x.1.length : Int))) (obind (rdAt x.1 x.2.2.2.1) fun v1 => cond (v1.2.1 == x.2.1) (obind (rdAt x.1 x.2.2.2.1) fun v2 => rec (x.1, x.2.1, IntKind.i64.wrap (x.2.2.1 + v2.2.2.1), IntKind.i64.wrap (x.2.2.2.1 + (1 : Int)), ())) (rec (x.1, x.2.1, x.2.2.1, IntKind.i64.wrap (x.2.2.2.1 + (1 : Int)), ()))) (k0 (x.2.2.1, ()))
def spec_l13Gas_l0 (F : Nat) : LoopFn where
  n := 28
  sh := spec_l13Gas_l0s
  outs := spec_l13Gas_l0o
  es := [.exit 0]
  step := fun rec K x => spec_l13Gas_l0_step F K.1 rec x
/-- loop.example/g01021/spec.l13Gas -/
def spec_l13Gas (F : Nat) (x0 : El (.sl Tsii)) (x1 : El (.int .i64)) : Option (Outs [((.int .i64), .no)]) :=
  runP (spec_l13Gas_l0_step F (fun y3 => some (y3.1, ()))) none F (x0, x1, (0 : Int), (0 : Int), ())
/-- loop.example/g01021/spec.l00Min -/
def spec_l00Min (F : Nat) (x0 : El (.int .i64)) (x1 : El (.int .i64)) : Option (Outs [((.int .i64), .no)]) :=
  cond (decide (x0 < x1)) (some (x0, ())) (some (x1, ()))
/-- loop.example/g01021/spec.l13Share -/
def spec_l13Share (F : Nat) (x0 : El (.int .i64)) (x1 : El (.int .i64)) : Option (Outs [((.int .i64), .no)]) :=
  guardB (!(x1 == 0)) (obind (spec_l00Min F (1000000 : Int) (IntKind.i64.wrap ((IntKind.i64.wrap ((IntKind.i64.wrap ((IntKind.i64.wrap ((100 : Int) * x0)) + x1)) - (1 : Int))).tdiv x1))) fun r1 => some (r1.1, ()))
/-- loop.example/g01021/spec.l13End -/
def spec_l13End (F : Nat) (x0 : El (.sl Tsii)) (x1 : El (.int .i64)) (x2 : El (.int .i64)) (x3 : El (.int .i64)) : Option (Outs [((.int .i64), .no)]) :=
  obind (spec_l03Abs F x2) fun r1 => cond (r1.1 == (0 : Int)) (obind (spec_l13Gas F x0 x1) fun r2 => cond (decide (r2.1 > (0 : Int))) (some ((1000000 : Int), ())) (some ((0 : Int), ()))) (obind (spec_l13Gas F x0 x1) fun r3 => obind (spec_l13Share F r3.1 r1.1) fun r4 => obind (spec_l00Min F (1000000 : Int) (IntKind.i64.wrap (x3 + r4.1))) fun r5 => some (r5.1, ()))
abbrev spec_l13Mix_l0s : List Sh := [.val (.sl (.int .i64)) .no, .val (.sl (.int .i64)) .no, .dead, .dead, .dead, .val (.int .i64) .no, .val (.int .i64) .no, .val (.int .i64) .no, .dead, .dead, .dead, .dead, .dead, .dead, .dead, .dead, .dead, .dead, .dead, .dead, .dead, .dead, .dead, .dead, .dead, .dead, .dead, .dead, .dead, .dead, .dead, .dead, .dead, .dead, .dead, .dead, .dead, .dead, .dead]
abbrev spec_l13Mix_l0o : List (Ex × List Sh) := [(.exit 0, [.dead, .dead, .dead, .dead, .dead, .val (.int .i64) .no, .val (.int .i64) .no, .dead, .dead, .dead, .dead, .dead, .dead, .dead, .dead, .dead, .dead, .dead, .dead, .dead, .dead, .dead, .dead, .dead, .dead, .dead, .dead, .dead, .dead, .dead, .dead, .dead, .dead, .dead, .dead, .dead, .dead, .dead, .dead])]
def spec_l13Mix_l0_step {β : Type} (F : Nat) (k0 : El (.int .i64) × El (.int .i64) × Unit → Option β) (rec : El (.sl (.int .i64)) × El (.sl (.int .i64)) × El (.int .i64) × El (.int .i64) × El (.int .i64) × Unit → Option β) (x : El (.sl (.int .i64)) × El (.sl (.int .i64)) × El (.int .i64) × El (.int .i64) × El (.int .i64) × Unit) : Option β :=
  cond (decide (x.2.2.2.2.1 < (x.1.length : Int))) (obind (rdAt x.1 x.2.2.2.2.1) fun v1 => obind (rdAt x.2.1 x.2.2.2.2.1) fun v2 => obind (rdAt x.1 x.2.2.2.2.1) fun v3 => rec (x.1, x.2.1, IntKind.i64.wrap (x.2.2.1 + (IntKind.i64.wrap (v1 * v2))), IntKind.i64.wrap (x.2.2.2.1 + v3), IntKind.i64.wrap (x.2.2.2.2.1 + (1 : Int)), ())) (k0 (x.2.2.1, x.2.2.2.1, ()))
def spec_l13Mix_l0 (F : Nat) : LoopFn where
  n := 39
  sh := spec_l13Mix_l0s
  outs := spec_l13Mix_l0o
  es := [.exit 0]
  step := fun rec K x => spec_l13Mix_l0_step F K.1 rec x
/-- loop.example/g01021/spec.l13Mix -/
def spec_l13Mix (F : Nat) (x0 : El (.sl (.int .i64))) (x1 : El (.sl (.int .i64))) : Option (Outs [((.int .i64), .no)]) :=
  runP (spec_l13Mix_l0_step F (fun y4 => cond (y4.2.1 == (0 : Int)) (some ((0 : Int), ())) (guardB (!(y4.2.1 == 0)) (some (IntKind.i64.wrap ((IntKind.i64.wrap ((IntKind.i64.wrap (y4.1 + y4.2.1)) - (1 : Int))).tdiv y4.2.1), ()))))) none F (x0, x1, (0 : Int), (0 : Int), (0 : Int), ())
abbrev spec_l13Shares_l2s : List Sh := [.val (.ptr TiSqsiiiiiip) .no, .val (.sl (.int .i64)) .no, .val (.sl Tsii) .no, .dead, .dead, .dead, .dead, .val (.sl (.int .i64)) (.own none .no), .val (.int .i64) .no, .val (.sl (.int .i64)) (.own none .no), .val (.int .i64) .no, .val (.sl (.int .i64)) (.own none .no), .val (.sl (.int .i64)) (.own none .no), .val (.int .i64) .no, .dead, .dead, .dead, .dead, .dead, .dead, .dead, .dead, .dead, .dead, .dead, .dead, .dead, .dead, .dead, .dead, .dead, .dead, .dead, .dead, .dead, .dead, .dead, .dead, .dead, .dead, .dead, .dead, .dead, .dead, .dead, .dead, .dead, .dead, .dead, .dead, .dead, .dead, .dead, .dead, .dead, .dead, .dead, .dead, .dead, .dead, .dead, .dead, .dead, .dead, .dead, .dead, .dead, .dead, .dead, .dead, .dead, .dead, .dead, .dead, .dead, .dead, .dead, .dead, .dead, .dead, .dead, .dead, .dead, .dead, .dead, .dead, .dead, .dead, .dead, .dead, .dead, .dead, .dead, .dead, .dead, .dead, .dead, .dead, .dead, .dead, .dead, .dead, .dead, .dead, .dead, .dead, .dead, .dead, .dead, .dead, .dead, .dead, .dead, .dead, .dead, .dead, .dead, .dead, .dead, .dead, .dead]
abbrev spec_l13Shares_l2o : List (Ex × List Sh) := [(.exit 4, [.val (.ptr TiSqsiiiiiip) .no, .val (.sl (.int .i64)) .no, .val (.sl Tsii) .no, .dead, .dead, .dead, .dead, .val (.sl (.int .i64)) (.own none .no), .val (.int .i64) .no, .val (.sl (.int .i64)) (.own none .no), .val (.int .i64) .no, .val (.sl (.int .i64)) (.own none .no), .val (.sl (.int .i64)) (.own none .no), .dead, .dead, .dead, .dead, .dead, .dead, .dead, .dead, .dead, .dead, .dead, .dead, .dead, .dead, .dead, .dead, .dead, .dead, .dead, .dead, .dead, .dead, .dead, .dead, .dead, .dead, .dead, .dead, .dead, .dead, .dead, .dead, .dead, .dead, .dead, .dead, .dead, .dead, .dead, .dead, .dead, .dead, .dead, .dead, .dead, .dead, .dead, .dead, .dead, .dead, .dead, .dead, .dead, .dead, .dead, .dead, .dead, .dead, .dead, .dead, .dead, .dead, .dead, .dead, .dead, .dead, .dead, .dead, .dead, .dead, .dead, .dead, .dead, .dead, .dead, .dead, .dead, .dead, .dead, .dead, .dead, .dead, .dead, .dead, .dead, .dead, .dead, .dead, .dead, .dead, .dead, .dead, .dead, .dead, .dead, .dead, .dead, .dead, .dead, .dead, .dead, .dead, .dead, .dead, .dead, .dead, .dead, .dead])]
def spec_l13Shares_l2_step {β : Type} (F : Nat) (k0 : El (.ptr TiSqsiiiiiip) × El (.sl (.int .i64)) × El (.sl Tsii) × El (.sl (.int .i64)) × El (.int .i64) × El (.sl (.int .i64)) × El (.int .i64) × El (.sl (.int .i64)) × El (.sl (.int .i64)) × Unit → Option β) (rec : El (.ptr TiSqsiiiiiip) × El (.sl (.int .i64)) × El (.sl Tsii) × El (.sl (.int .i64)) × El (.int .i64) × El (.sl (.int .i64)) × El (.int .i64) × El (.sl (.int .i64)) × El (.sl (.int .i64)) × El (.int .i64) × Unit → Option β) (x : El (.ptr TiSqsiiiiiip) × El (.sl (.int .i64)) × El (.sl Tsii) × El (.sl (.int .i64)) × El (.int .i64) × El (.sl (.int .i64)) × El (.int .i64) × El (.sl (.int .i64)) × El (.sl (.int .i64)) × El (.int .i64) × Unit) : Option β :=
  cond (decide (x.2.2.2.2.2.2.2.2.2.1 < (x.2.1.length : Int))) (obind (rdAt x.1.2.1 x.2.2.2.2.2.2.2.2.2.1) fun v1 => obind (rdAt x.2.1 x.2.2.2.2.2.2.2.2.2.1) fun v2 => cond (v2 == (0 : Int)) (rec (x.1, x.2.1, x.2.2.1, x.2.2.2.1, x.2.2.2.2.1, x.2.2.2.2.2.1, x.2.2.2.2.2.2.1, x.2.2.2.2.2.2.2.1, x.2.2.2.2.2.2.2.2.1, IntKind.i64.wrap (x.2.2.2.2.2.2.2.2.2.1 + (1 : Int)), ())) (cond (v1.2.1 != x.2.2.2.2.2.2.1) (cond (v1.2.2.1 != x.2.2.2.2.2.2.1) (rec (x.1, x.2.1, x.2.2.1, x.2.2.2.1, x.2.2.2.2.1, x.2.2.2.2.2.1, x.2.2.2.2.2.2.1, x.2.2.2.2.2.2.2.1, x.2.2.2.2.2.2.2.2.1, IntKind.i64.wrap (x.2.2.2.2.2.2.2.2.2.1 + (1 : Int)), ())) (obind (rdAt x.2.1 x.2.2.2.2.2.2.2.2.2.1) fun v3 => obind (spec_l13Start F v1 v3) fun r4 => cond (r4.1 == x.2.2.2.2.2.2.1) (rec (x.1, x.2.1, x.2.2.1, x.2.2.2.1, x.2.2.2.2.1, x.2.2.2.2.2.1, x.2.2.2.2.2.2.1, x.2.2.2.2.2.2.2.1, x.2.2.2.2.2.2.2.2.1, IntKind.i64.wrap (x.2.2.2.2.2.2.2.2.2.1 + (1 : Int)), ())) (obind (rdAt x.2.1 x.2.2.2.2.2.2.2.2.2.1) fun v5 => obind (spec_l03Abs F v5) fun r6 => guardB (decide ((x.2.2.2.2.2.2.2.1.length + ([r6.1]).length) * 8 ≤ 140737488355328)) (obind (rdAt x.2.1 x.2.2.2.2.2.2.2.2.2.1) fun v7 => obind (rdAt x.2.1 x.2.2.2.2.2.2.2.2.2.1) fun v8 => obind (spec_l13Start F v1 v8) fun r9 => obind (rdAt x.2.2.2.1 r9.1) fun v10 => obind (spec_l13End F x.2.2.1 x.2.2.2.2.2.2.2.2.2.1 v7 v10) fun r11 => guardB (decide ((x.2.2.2.2.2.2.2.2.1.length + ([r11.1]).length) * 8 ≤ 140737488355328)) (rec (x.1, x.2.1, x.2.2.1, x.2.2.2.1, x.2.2.2.2.1, x.2.2.2.2.2.1, x.2.2.2.2.2.2.1, x.2.2.2.2.2.2.2.1 ++ ([r6.1]), x.2.2.2.2.2.2.2.2.1 ++ ([r11.1]), IntKind.i64.wrap (x.2.2.2.2.2.2.2.2.2.1 + (1 : Int)), ())))))) (obind (rdAt x.2.1 x.2.2.2.2.2.2.2.2.2.1) fun v12 => obind (spec_l13Start F v1 v12) fun r13 => cond (r13.1 == x.2.2.2.2.2.2.1) (rec (x.1, x.2.1, x.2.2.1, x.2.2.2.1, x.2.2.2.2.1, x.2.2.2.2.2.1, x.2.2.2.2.2.2.1, x.2.2.2.2.2.2.2.1, x.2.2.2.2.2.2.2.2.1, IntKind.i64.wrap (x.2.2.2.2.2.2.2.2.2.1 + (1 : Int)), ())) (obind (rdAt x.2.1 x.2.2.2.2.2.2.2.2.2.1) fun v14 => obind (spec_l03Abs F v14) fun r15 => guardB (decide ((x.2.2.2.2.2.2.2.1.length + ([r15.1]).length) * 8 ≤ 140737488355328)) (obind (rdAt x.2.1 x.2.2.2.2.2.2.2.2.2.1) fun v16 => obind (rdAt x.2.1 x.2.2.2.2.2.2.2.2.2.1) fun v17 => obind (spec_l13Start F v1 v17) fun r18 => obind (rdAt x.2.2.2.1 r18.1) fun v19 => obind (spec_l13End F x.2.2.1 x.2.2.2.2.2.2.2.2.2.1 v16 v19) fun r20 => guardB (decide ((x.2.2.2.2.2.2.2.2.1.length + ([r20.1]).length) * 8 ≤ 140737488355328)) (rec (x.1, x.2.1, x.2.2.1, x.2.2.2.1, x.2.2.2.2.1, x.2.2.2.2.2.1, x.2.2.2.2.2.2.1, x.2.2.2.2.2.2.2.1 ++ ([r15.1]), x.2.2.2.2.2.2.2.2.1 ++ ([r20.1]), IntKind.i64.wrap (x.2.2.2.2.2.2.2.2.2.1 + (1 : Int)), ()))))))) (k0 (x.1, x.2.1, x.2.2.1, x.2.2.2.1, x.2.2.2.2.1, x.2.2.2.2.2.1, x.2.2.2.2.2.2.1, x.2.2.2.2.2.2.2.1, x.2.2.2.2.2.2.2.2.1, ()))
def spec_l13Shares_l2 (F : Nat) : LoopFn where
  n := 121
  sh := spec_l13Shares_l2s
  outs := spec_l13Shares_l2o
  es := [.exit 4]
  step := fun rec K x => spec_l13Shares_l2_step F K.1 rec x
abbrev spec_l13Shares_l1s : List Sh := [.val (.ptr TiSqsiiiiiip) .no, .val (.sl (.int .i64)) .no, .val (.sl Tsii) .no, .dead, .dead, .dead, .dead, .val (.sl (.int .i64)) (.own none .no), .val (.int .i64) .no, .val (.sl (.int .i64)) (.own none .no), .val (.int .i64) .no, .dead, .dead, .dead, .dead, .dead, .dead, .dead, .dead, .dead, .dead, .dead, .dead, .dead, .dead, .dead, .dead, .dead, .dead, .dead, .dead, .dead, .dead, .dead, .dead, .dead, .dead, .dead, .dead, .dead, .dead, .dead, .dead, .dead, .dead, .dead, .dead, .dead, .dead, .dead, .dead, .dead, .dead, .dead, .dead, .dead, .dead, .dead, .dead, .dead, .dead, .dead, .dead, .dead, .dead, .dead, .dead, .dead, .dead, .dead, .dead, .dead, .dead, .dead, .dead, .dead, .dead, .dead, .dead, .dead, .dead, .dead, .dead, .dead, .dead, .dead, .dead, .dead, .dead, .dead, .dead, .dead, .dead, .dead, .dead, .dead, .dead, .dead, .dead, .dead, .dead, .dead, .dead, .dead, .dead, .dead, .dead, .dead, .dead, .dead, .dead, .dead, .dead, .dead, .dead, .dead, .dead, .dead, .dead, .dead, .dead]
abbrev spec_l13Shares_l1o : List (Ex × List Sh) := [(.exit 2, [.val (.ptr TiSqsiiiiiip) .no, .val (.sl (.int .i64)) .no, .val (.sl Tsii) .no, .dead, .dead, .dead, .dead, .dead, .val (.int .i64) .no, .val (.sl (.int .i64)) (.own none .no), .dead, .dead, .dead, .dead, .dead, .dead, .dead, .dead, .dead, .dead, .dead, .dead, .dead, .dead, .dead, .dead, .dead, .dead, .dead, .dead, .dead, .dead, .dead, .dead, .dead, .dead, .dead, .dead, .dead, .dead, .dead, .dead, .dead, .dead, .dead, .dead, .dead, .dead, .dead, .dead, .dead, .dead, .dead, .dead, .dead, .dead, .dead, .dead, .dead, .dead, .dead, .dead, .dead, .dead, .dead, .dead, .dead, .dead, .dead, .dead, .dead, .dead, .dead, .dead, .dead, .dead, .dead, .dead, .dead, .dead, .dead, .dead, .dead, .dead, .dead, .dead, .dead, .dead, .dead, .dead, .dead, .dead, .dead, .dead, .dead, .dead, .dead, .dead, .dead, .dead, .dead, .dead, .dead, .dead, .dead, .dead, .dead, .dead, .dead, .dead, .dead, .dead, .dead, .dead, .dead, .dead, .dead, .dead, .dead, .dead, .dead])]
def spec_l13Shares_l1_step {β : Type} (F : Nat) (k0 : El (.ptr TiSqsiiiiiip) × El (.sl (.int .i64)) × El (.sl Tsii) × El (.int .i64) × El (.sl (.int .i64)) × Unit → Option β) (rec : El (.ptr TiSqsiiiiiip) × El (.sl (.int .i64)) × El (.sl Tsii) × El (.sl (.int .i64)) × El (.int .i64) × El (.sl (.int .i64)) × El (.int .i64) × Unit → Option β) (x : El (.ptr TiSqsiiiiiip) × El (.sl (.int .i64)) × El (.sl Tsii) × El (.sl (.int .i64)) × El (.int .i64) × El (.sl (.int .i64)) × El (.int .i64) × Unit) : Option β :=
  cond (decide (x.2.2.2.2.2.2.1 < x.1.1)) (runP (spec_l13Shares_l2_step F (fun y21 => obind (spec_l13Mix F y21.2.2.2.2.2.2.2.1 y21.2.2.2.2.2.2.2.2.1) fun r22 => obind (rdAt y21.2.2.2.2.2.1 y21.2.2.2.2.2.2.1) fun v23 => rec (y21.1, y21.2.1, y21.2.2.1, y21.2.2.2.1, y21.2.2.2.2.1, y21.2.2.2.2.2.1.set y21.2.2.2.2.2.2.1.toNat r22.1, IntKind.i64.wrap (y21.2.2.2.2.2.2.1 + (1 : Int)), ()))) none F (x.1, x.2.1, x.2.2.1, x.2.2.2.1, x.2.2.2.2.1, x.2.2.2.2.2.1, x.2.2.2.2.2.2.1, [], [], (0 : Int), ())) (k0 (x.1, x.2.1, x.2.2.1, x.2.2.2.2.1, x.2.2.2.2.2.1, ()))
def spec_l13Shares_l1 (F : Nat) : LoopFn where
  n := 121
  sh := spec_l13Shares_l1s
  outs := spec_l13Shares_l1o
  es := [.exit 2]
  step := fun rec K x => spec_l13Shares_l1_step F K.1 rec x
abbrev spec_l13Shares_l0s : List Sh := [.val (.ptr TiSqsiiiiiip) .no, .val (.sl (.int .i64)) .no, .val (.sl Tsii) .no, .dead, .dead, .dead, .dead, .val (.sl (.int .i64)) (.own none .no), .val (.int .i64) .no, .dead, .dead, .dead, .dead, .dead, .dead, .dead, .dead, .dead, .dead, .dead, .dead, .dead, .dead, .dead, .dead, .dead, .dead, .dead, .dead, .dead, .dead, .dead, .dead, .dead, .dead, .dead, .dead, .dead, .dead, .dead, .dead, .dead, .dead, .dead, .dead, .dead, .dead, .dead, .dead, .dead, .dead, .dead, .dead, .dead, .dead, .dead, .dead, .dead, .dead, .dead, .dead, .dead, .dead, .dead, .dead, .dead, .dead, .dead, .dead, .dead, .dead, .dead, .dead, .dead, .dead, .dead, .dead, .dead, .dead, .dead, .dead, .dead, .dead, .dead, .dead, .dead, .dead, .dead, .dead, .dead, .dead, .dead, .dead, .dead, .dead, .dead, .dead, .dead, .dead, .dead, .dead, .dead, .dead, .dead, .dead, .dead, .dead, .dead, .dead, .dead, .dead, .dead, .dead, .dead, .dead, .dead, .dead, .dead, .dead, .dead, .dead]
abbrev spec_l13Shares_l0o : List (Ex × List Sh) := [(.exit 0, [.dead, .dead, .dead, .dead, .dead, .dead, .dead, .val (.sl (.int .i64)) (.own none .no), .dead, .dead, .dead, .dead, .dead, .dead, .dead, .dead, .dead, .dead, .dead, .dead, .dead, .dead, .dead, .dead, .dead, .dead, .dead, .dead, .dead, .dead, .dead, .dead, .dead, .dead, .dead, .dead, .dead, .dead, .dead, .dead, .dead, .dead, .dead, .dead, .dead, .dead, .dead, .dead, .dead, .dead, .dead, .dead, .dead, .dead, .dead, .dead, .dead, .dead, .dead, .dead, .dead, .dead, .dead, .dead, .dead, .dead, .dead, .dead, .dead, .dead, .dead, .dead, .dead, .dead, .dead, .dead, .dead, .dead, .dead, .dead, .dead, .dead, .dead, .dead, .dead, .dead, .dead, .dead, .dead, .dead, .dead, .dead, .dead, .dead, .dead, .dead, .dead, .dead, .dead, .dead, .dead, .dead, .dead, .dead, .dead, .dead, .dead, .dead, .dead, .dead, .dead, .dead, .dead, .dead, .dead, .dead, .dead, .dead, .dead, .dead, .dead])]
def spec_l13Shares_l0_step {β : Type} (F : Nat) (k0 : El (.sl (.int .i64)) × Unit → Option β) (rec : El (.ptr TiSqsiiiiiip) × El (.sl (.int .i64)) × El (.sl Tsii) × El (.sl (.int .i64)) × El (.int .i64) × Unit → Option β) (x : El (.ptr TiSqsiiiiiip) × El (.sl (.int .i64)) × El (.sl Tsii) × El (.sl (.int .i64)) × El (.int .i64) × Unit) : Option β :=
  cond (decide (x.2.2.2.2.1 < x.1.1)) (guardB (decide ((0 : Int) ≤ x.1.1)) (guardB (decide (x.1.1 ≤ x.1.1)) (guardB (decide (x.1.1 * (8 : Int) ≤ 281474976710656)) (guardB (decide (x.1.1 ≤ 9223372036854775807)) (runP (spec_l13Shares_l1_step F (fun y24 => rec (y24.1, y24.2.1, y24.2.2.1, y24.2.2.2.2.1, IntKind.i64.wrap (y24.2.2.2.1 + (1 : Int)), ()))) none F (x.1, x.2.1, x.2.2.1, x.2.2.2.1, x.2.2.2.2.1, List.replicate x.1.1.toNat (0 : Int), (0 : Int), ())))))) (k0 (x.2.2.2.1, ()))
def spec_l13Shares_l0 (F : Nat) : LoopFn where
  n := 121
  sh := spec_l13Shares_l0s
  outs := spec_l13Shares_l0o
  es := [.exit 0]
  step := fun rec K x => spec_l13Shares_l0_step F K.1 rec x
/-- loop.example/g01021/spec.l13Shares -/
def spec_l13Shares (F : Nat) (x0 : El (.ptr TiSqsiiiiiip)) (x1 : El (.sl (.int .i64))) (x2 : El (.sl Tsii)) : Option (Outs [((.sl (.int .i64)), (.own none .no))]) :=
  guardB (decide ((0 : Int) ≤ x0.1)) (guardB (decide (x0.1 ≤ x0.1)) (guardB (decide (x0.1 * (8 : Int) ≤ 281474976710656)) (guardB (decide (x0.1 ≤ 9223372036854775807)) (runP (spec_l13Shares_l0_step F (fun y25 => some (y25.1, ()))) none F (x0, x1, x2, List.replicate x0.1.toNat (0 : Int), (0 : Int), ())))))
abbrev spec_l13Ends_l0s : List Sh := [.val (.ptr TiSqsiiiiiip) .no, .val (.sl (.int .i64)) .no, .val (.sl Tsii) .no, .dead, .dead, .dead, .dead, .val (.sl (.int .i64)) (.own none .no), .val (.sl (.int .i64)) (.own none .no), .val (.int .i64) .no, .dead, .dead, .dead, .dead, .dead, .dead, .dead, .dead, .dead, .dead, .dead, .dead, .dead, .dead, .dead, .dead, .dead, .dead, .dead, .dead, .dead, .dead, .dead, .dead, .dead, .dead, .dead, .dead, .dead, .dead, .dead, .dead, .dead, .dead, .dead, .dead]
abbrev spec_l13Ends_l0o : List (Ex × List Sh) := [(.exit 0, [.dead, .dead, .dead, .dead, .dead, .dead, .dead, .dead, .val (.sl (.int .i64)) (.own none .no), .dead, .dead, .dead, .dead, .dead, .dead, .dead, .dead, .dead, .dead, .dead, .dead, .dead, .dead, .dead, .dead, .dead, .dead, .dead, .dead, .dead, .dead, .dead, .dead, .dead, .dead, .dead, .dead, .dead, .dead, .dead, .dead, .dead, .dead, .dead, .dead, .dead])]
def spec_l13Ends_l0_step {β : Type} (F : Nat) (k0 : El (.sl (.int .i64)) × Unit → Option β) (rec : El (.ptr TiSqsiiiiiip) × El (.sl (.int .i64)) × El (.sl Tsii) × El (.sl (.int .i64)) × El (.sl (.int .i64)) × El (.int .i64) × Unit → Option β) (x : El (.ptr TiSqsiiiiiip) × El (.sl (.int .i64)) × El (.sl Tsii) × El (.sl (.int .i64)) × El (.sl (.int .i64)) × El (.int .i64) × Unit) : Option β :=
  cond (decide (x.2.2.2.2.2.1 < (x.2.1.length : Int))) (obind (rdAt x.2.1 x.2.2.2.2.2.1) fun v2 => obind (rdAt x.1.2.1 x.2.2.2.2.2.1) fun v3 => obind (rdAt x.2.1 x.2.2.2.2.2.1) fun v4 => obind (spec_l13Start F v3 v4) fun r5 => obind (rdAt x.2.2.2.1 r5.1) fun v6 => obind (spec_l13End F x.2.2.1 x.2.2.2.2.2.1 v2 v6) fun r7 => guardB (decide ((x.2.2.2.2.1.length + ([r7.1]).length) * 8 ≤ 140737488355328)) (rec (x.1, x.2.1, x.2.2.1, x.2.2.2.1, x.2.2.2.2.1 ++ ([r7.1]), IntKind.i64.wrap (x.2.2.2.2.2.1 + (1 : Int)), ()))) (k0 (x.2.2.2.2.1, ()))
def spec_l13Ends_l0 (F : Nat) : LoopFn where
  n := 46
  sh := spec_l13Ends_l0s
  outs := spec_l13Ends_l0o
  es := [.exit 0]
  step := fun rec K x => spec_l13Ends_l0_step F K.1 rec x
/-- loop.example/g01021/spec.l13Ends -/
def spec_l13Ends (F : Nat) (x0 : El (.ptr TiSqsiiiiiip)) (x1 : El (.sl (.int .i64))) (x2 : El (.sl Tsii)) : Option (Outs [((.sl (.int .i64)), (.own none .no))]) :=
  obind (spec_l13Shares F x0 x1 x2) fun r1 => runP (spec_l13Ends_l0_step F (fun y8 => some (y8.1, ()))) none F (x0, x1, x2, r1.1, [], (0 : Int), ())
abbrev spec_l01Dec_l1s : List Sh := [.dead, .dead, .dead, .val (.sl (.int .u8)) (.own none .no), .dead, .dead, .val (.sl (.int .u8)) (.own none .no), .val (.int .i64) .no, .dead, .dead, .dead, .dead, .dead, .dead, .dead, .dead, .dead, .dead, .dead, .dead, .dead, .dead, .dead, .dead, .dead, .dead, .dead, .dead, .dead, .dead, .dead, .dead, .dead, .dead, .dead, .dead, .dead, .dead, .dead, .dead, .dead, .dead, .dead, .dead, .dead, .dead, .dead, .dead, .dead, .dead]
abbrev spec_l01Dec_l1o : List (Ex × List Sh) := [(.exit 2, [.dead, .dead, .dead, .dead, .dead, .dead, .val (.sl (.int .u8)) (.own none .no), .dead, .dead, .dead, .dead, .dead, .dead, .dead, .dead, .dead, .dead, .dead, .dead, .dead, .dead, .dead, .dead, .dead, .dead, .dead, .dead, .dead, .dead, .dead, .dead, .dead, .dead, .dead, .dead, .dead, .dead, .dead, .dead, .dead, .dead, .dead, .dead, .dead, .dead, .dead, .dead, .dead, .dead, .dead])]
def spec_l01Dec_l1_step {β : Type} (F : Nat) (k0 : El (.sl (.int .u8)) × Unit → Option β) (rec : El (.sl (.int .u8)) × El (.sl (.int .u8)) × El (.int .i64) × Unit → Option β) (x : El (.sl (.int .u8)) × El (.sl (.int .u8)) × El (.int .i64) × Unit) : Option β :=
  cond (decide (x.2.2.1 ≥ (0 : Int))) (obind (rdAt x.1 x.2.2.1) fun v2 => guardB (decide ((x.2.1.length + ([v2]).length) * 1 ≤ 140737488355328)) (rec (x.1, x.2.1 ++ ([v2]), IntKind.i64.wrap (x.2.2.1 - (1 : Int)), ()))) (k0 (x.2.1, ()))
def spec_l01Dec_l1 (F : Nat) : LoopFn where
  n := 50
  sh := spec_l01Dec_l1s
  outs := spec_l01Dec_l1o
  es := [.exit 2]
  step := fun rec K x => spec_l01Dec_l1_step F K.1 rec x
abbrev spec_l01Dec_l0s : List Sh := [.val (.int .i64) .no, .dead, .dead, .val (.sl (.int .u8)) (.own none .no), .val (.int .i64) .no, .dead, .dead, .dead, .dead, .dead, .dead, .dead, .dead, .dead, .dead, .dead, .dead, .dead, .dead, .dead, .dead, .dead, .dead, .dead, .dead, .dead, .dead, .dead, .dead, .dead, .dead, .dead, .dead, .dead, .dead, .dead, .dead, .dead, .dead, .dead, .dead, .dead, .dead, .dead, .dead, .dead, .dead, .dead, .dead, .dead]
abbrev spec_l01Dec_l0o : List (Ex × List Sh) := [(.exit 0, [.val (.int .i64) .no, .dead, .dead, .val (.sl (.int .u8)) (.own none .no), .dead, .dead, .dead, .dead, .dead, .dead, .dead, .dead, .dead, .dead, .dead, .dead, .dead, .dead, .dead, .dead, .dead, .dead, .dead, .dead, .dead, .dead, .dead, .dead, .dead, .dead, .dead, .dead, .dead, .dead, .dead, .dead, .dead, .dead, .dead, .dead, .dead, .dead, .dead, .dead, .dead, .dead, .dead, .dead, .dead, .dead])]
def spec_l01Dec_l0_step {β : Type} (F : Nat) (k0 : El (.int .i64) × El (.sl (.int .u8)) × Unit → Option β) (rec : El (.int .i64) × El (.sl (.int .u8)) × El (.int .i64) × Unit → Option β) (x : El (.int .i64) × El (.sl (.int .u8)) × El (.int .i64) × Unit) : Option β :=
  cond (x.2.2.1 != (0 : Int)) (cond (decide ((x.2.2.1.tmod (10 : Int)) < (0 : Int))) (guardB (decide ((x.2.1.length + ([IntKind.u8.wrap (IntKind.i64.wrap ((48 : Int) + (IntKind.i64.wrap (0 - (x.2.2.1.tmod (10 : Int))))))]).length) * 1 ≤ 140737488355328)) (rec (x.1, x.2.1 ++ ([IntKind.u8.wrap (IntKind.i64.wrap ((48 : Int) + (IntKind.i64.wrap (0 - (x.2.2.1.tmod (10 : Int))))))]), IntKind.i64.wrap (x.2.2.1.tdiv (10 : Int)), ()))) (guardB (decide ((x.2.1.length + ([IntKind.u8.wrap (IntKind.i64.wrap ((48 : Int) + (x.2.2.1.tmod (10 : Int))))]).length) * 1 ≤ 140737488355328)) (rec (x.1, x.2.1 ++ ([IntKind.u8.wrap (IntKind.i64.wrap ((48 : Int) + (x.2.2.1.tmod (10 : Int))))]), IntKind.i64.wrap (x.2.2.1.tdiv (10 : Int)), ())))) (k0 (x.1, x.2.1, ()))
def spec_l01Dec_l0 (F : Nat) : LoopFn where
  n := 50
  sh := spec_l01Dec_l0s
  outs := spec_l01Dec_l0o
  es := [.exit 0]
  step := fun rec K x => spec_l01Dec_l0_step F K.1 rec x
/-- loop.example/g01021/spec.l01Dec -/
def spec_l01Dec (F : Nat) (x0 : El (.int .i64)) : Option (Outs [(.str, .no)]) :=
  cond (x0 == (0 : Int)) (some ((⟨#[48]⟩ : ByteArray), ())) (runP (spec_l01Dec_l0_step F (fun y1 => cond (decide (y1.1 < (0 : Int))) (guardB (decide ((y1.2.1.length + ([(45 : Int)]).length) * 1 ≤ 140737488355328)) (runP (spec_l01Dec_l1_step F (fun y3 => some (bytesOf y3.1, ()))) none F (y1.2.1 ++ ([(45 : Int)]), [], IntKind.i64.wrap (((y1.2.1 ++ ([(45 : Int)])).length : Int) - (1 : Int)), ()))) (runP (spec_l01Dec_l1_step F (fun y4 => some (bytesOf y4.1, ()))) none F (y1.2.1, [], IntKind.i64.wrap ((y1.2.1.length : Int) - (1 : Int)), ())))) none F (x0, [], x0, ()))
abbrev spec_l23All_l0s : List Sh := [.val (.sl Tsiii) .no, .dead, .dead, .val (.sl (.int .i64)) (.own none .no), .val (.int .i64) .no, .dead, .dead, .dead, .dead, .dead, .dead, .dead, .dead, .dead, .dead, .dead, .dead]
abbrev spec_l23All_l0o : List (Ex × List Sh) := [(.exit 0, [.dead, .dead, .dead, .val (.sl (.int .i64)) (.own none .no), .dead, .dead, .dead, .dead, .dead, .dead, .dead, .dead, .dead, .dead, .dead, .dead, .dead])]
def spec_l23All_l0_step {β : Type} (F : Nat) (k0 : El (.sl (.int .i64)) × Unit → Option β) (rec : El (.sl Tsiii) × El (.sl (.int .i64)) × El (.int .i64) × Unit → Option β) (x : El (.sl Tsiii) × El (.sl (.int .i64)) × El (.int .i64) × Unit) : Option β :=
  cond (decide (x.2.2.1 < (x.1.length : Int))) (guardB (decide ((x.2.1.length + ([x.2.2.1]).length) * 8 ≤ 140737488355328)) (rec (x.1, x.2.1 ++ ([x.2.2.1]), IntKind.i64.wrap (x.2.2.1 + (1 : Int)), ()))) (k0 (x.2.1, ()))
def spec_l23All_l0 (F : Nat) : LoopFn where
  n := 17
  sh := spec_l23All_l0s
  outs := spec_l23All_l0o
  es := [.exit 0]
  step := fun rec K x => spec_l23All_l0_step F K.1 rec x
/-- loop.example/g01021/spec.l23All -/
def spec_l23All (F : Nat) (x0 : El (.sl Tsiii)) : Option (Outs [((.sl (.int .i64)), (.own none .no))]) :=
  runP (spec_l23All_l0_step F (fun y1 => some (y1.1, ()))) none F (x0, [], (0 : Int), ())
/-- loop.example/g01021/spec.l23Need -/
def spec_l23Need (F : Nat) (x0 : El (.ptr Tsiii)) : Option (Outs [((.int .i64), .no)]) :=
  some (IntKind.i64.wrap ((IntKind.i64.wrap ((10 : Int) * x0.2.2.1)) + (IntKind.i64.wrap ((6 : Int) * x0.2.2.2.1))), ())
abbrev spec_l23Needs_l0s : List Sh := [.dead, .val (.sl Tsiii) .no, .val (.sl (.int .i64)) .no, .dead, .dead, .dead, .dead, .val (.sl (.int .i64)) (.own none .no), .val (.int .i64) .no, .dead, .dead, .dead, .dead, .dead, .dead, .dead, .dead, .dead, .dead, .dead, .dead, .dead, .dead, .dead, .dead, .dead, .dead, .dead, .dead, .dead, .dead, .dead, .dead, .dead, .dead, .dead, .dead, .dead, .dead, .dead]
abbrev spec_l23Needs_l0o : List (Ex × List Sh) := [(.exit 0, [.dead, .dead, .dead, .dead, .dead, .dead, .dead, .val (.sl (.int .i64)) (.own none .no), .dead, .dead, .dead, .dead, .dead, .dead, .dead, .dead, .dead, .dead, .dead, .dead, .dead, .dead, .dead, .dead, .dead, .dead, .dead, .dead, .dead, .dead, .dead, .dead, .dead, .dead, .dead, .dead, .dead, .dead, .dead, .dead])]
def spec_l23Needs_l0_step {β : Type} (F : Nat) (k0 : El (.sl (.int .i64)) × Unit → Option β) (rec : El (.sl Tsiii) × El (.sl (.int .i64)) × El (.sl (.int .i64)) × El (.int .i64) × Unit → Option β) (x : El (.sl Tsiii) × El (.sl (.int .i64)) × El (.sl (.int .i64)) × El (.int .i64) × Unit) : Option β :=
  cond (decide (x.2.2.2.1 < (x.2.1.length : Int))) (obind (rdAt x.2.1 x.2.2.2.1) fun v1 => obind (rdAt x.1 v1) fun v2 => obind (rdAt x.2.2.1 v2.2.1) fun v3 => obind (spec_l23Need F v2) fun r4 => obind (rdAt x.2.2.1 v2.2.1) fun v5 => rec (x.1, x.2.1, x.2.2.1.set v2.2.1.toNat (IntKind.i64.wrap (v3 + r4.1)), IntKind.i64.wrap (x.2.2.2.1 + (1 : Int)), ())) (k0 (x.2.2.1, ()))
def spec_l23Needs_l0 (F : Nat) : LoopFn where
  n := 40
  sh := spec_l23Needs_l0s
  outs := spec_l23Needs_l0o
  es := [.exit 0]
  step := fun rec K x => spec_l23Needs_l0_step F K.1 rec x
/-- loop.example/g01021/spec.l23Needs -/
def spec_l23Needs (F : Nat) (x0 : El (.ptr TiSqsiiiiiip)) (x1 : El (.sl Tsiii)) (x2 : El (.sl (.int .i64))) : Option (Outs [((.sl (.int .i64)), (.own none .no))]) :=
  guardB (decide ((0 : Int) ≤ (x0.2.1.length : Int))) (guardB (decide ((x0.2.1.length : Int) ≤ (x0.2.1.length : Int))) (guardB (decide ((x0.2.1.length : Int) * (8 : Int) ≤ 281474976710656)) (guardB (decide ((x0.2.1.length : Int) ≤ 9223372036854775807)) (runP (spec_l23Needs_l0_step F (fun y6 => some (y6.1, ()))) none F (x1, x2, List.replicate (x0.2.1.length : Int).toNat (0 : Int), (0 : Int), ())))))
/-- loop.example/g01021/spec.l21Miss -/
def spec_l21Miss (F : Nat) (x0 : El (.sl (.int .i64))) (x1 : El (.ptr Tiii)) : Option (Outs [((.int .i64), .no)]) :=
  obind (rdAt x0 x1.1) fun v1 => obind (spec_l00Max F (IntKind.i64.wrap (x1.2.1 - v1)) (IntKind.i64.wrap (v1 - x1.2.2.1))) fun r2 => obind (spec_l00Max F (0 : Int) r2.1) fun r3 => some (r3.1, ())
abbrev spec_l31Load_l2s : List Sh := [.val (.ptr Tc66acf8c) .no, .dead, .dead, .val (.sl Tiss) (.own none .no), .val (.ptr TiSqsiiiiiip) .no, .dead, .dead, .dead, .dead, .dead, .val (.int .i64) .no, .dead, .dead, .dead, .dead, .dead, .dead, .dead, .dead, .dead, .dead, .dead, .dead, .dead, .dead, .dead, .dead, .dead, .dead, .dead, .dead, .dead, .dead, .dead, .dead, .dead, .dead, .dead, .dead, .dead, .dead, .dead, .dead, .dead, .dead, .dead, .dead, .dead, .dead, .dead, .dead, .dead, .dead, .dead, .dead, .dead, .dead, .dead, .dead, .dead, .dead, .dead, .dead, .dead, .dead, .dead, .dead, .dead, .dead, .dead, .dead, .dead, .dead, .dead, .dead, .dead, .dead, .dead, .dead, .dead, .dead, .dead, .dead, .dead, .dead, .dead, .dead, .dead, .dead, .dead, .dead, .dead, .dead, .dead, .dead, .dead, .dead, .dead, .dead, .dead, .dead, .dead, .dead, .dead, .dead, .dead, .dead, .dead, .dead, .dead, .dead, .dead, .dead, .dead, .dead, .dead, .dead, .dead, .dead, .dead, .dead, .dead, .dead, .dead, .dead, .dead, .dead, .dead, .dead, .dead, .dead, .dead, .dead, .dead, .dead, .dead, .dead, .dead, .dead, .dead, .dead, .dead, .dead, .dead, .dead, .dead, .dead, .dead, .dead]
abbrev spec_l31Load_l2o : List (Ex × List Sh) := [(.exit 4, [.dead, .dead, .dead, .val (.sl Tiss) (.own none .no), .dead, .dead, .dead, .dead, .dead, .dead, .dead, .dead, .dead, .dead, .dead, .dead, .dead, .dead, .dead, .dead, .dead, .dead, .dead, .dead, .dead, .dead, .dead, .dead, .dead, .dead, .dead, .dead, .dead, .dead, .dead, .dead, .dead, .dead, .dead, .dead, .dead, .dead, .dead, .dead, .dead, .dead, .dead, .dead, .dead, .dead, .dead, .dead, .dead, .dead, .dead, .dead, .dead, .dead, .dead, .dead, .dead, .dead, .dead, .dead, .dead, .dead, .dead, .dead, .dead, .dead, .dead, .dead, .dead, .dead, .dead, .dead, .dead, .dead, .dead, .dead, .dead, .dead, .dead, .dead, .dead, .dead, .dead, .dead, .dead, .dead, .dead, .dead, .dead, .dead, .dead, .dead, .dead, .dead, .dead, .dead, .dead, .dead, .dead, .dead, .dead, .dead, .dead, .dead, .dead, .dead, .dead, .dead, .dead, .dead, .dead, .dead, .dead, .dead, .dead, .dead, .dead, .dead, .dead, .dead, .dead, .dead, .dead, .dead, .dead, .dead, .dead, .dead, .dead, .dead, .dead, .dead, .dead, .dead, .dead, .dead, .dead, .dead, .dead, .dead, .dead, .dead, .dead, .dead, .dead])]
def spec_l31Load_l2_step {β : Type} (F : Nat) (k0 : El (.sl Tiss) × Unit → Option β) (rec : El (.ptr Tc66acf8c) × El (.sl Tiss) × El (.ptr TiSqsiiiiiip) × El (.int .i64) × Unit → Option β) (x : El (.ptr Tc66acf8c) × El (.sl Tiss) × El (.ptr TiSqsiiiiiip) × El (.int .i64) × Unit) : Option β :=
  cond (decide (x.2.2.2.1 < (x.1.2.2.2.1.length : Int))) (obind (rdAt x.1.2.2.2.1 x.2.2.2.1) fun v15 => obind (spec_l21Miss F x.1.2.2.1 v15) fun r16 => cond (decide (r16.1 > (0 : Int))) (obind (rdAt x.1.2.2.2.1 x.2.2.2.1) fun v17 => obind (rdAt x.2.2.1.2.1 v17.1) fun v18 => obind (spec_l01Dec F r16.1) fun r19 => guardB (decide ((x.2.1.length + ([((6 : Int), (v18.1, (r19.1, ())))]).length) * 40 ≤ 140737488355328)) (rec (x.1, x.2.1 ++ ([((6 : Int), (v18.1, (r19.1, ())))]), x.2.2.1, IntKind.i64.wrap (x.2.2.2.1 + (1 : Int)), ()))) (rec (x.1, x.2.1, x.2.2.1, IntKind.i64.wrap (x.2.2.2.1 + (1 : Int)), ()))) (k0 (x.2.1, ()))
def spec_l31Load_l2 (F : Nat) : LoopFn where
  n := 149
  sh := spec_l31Load_l2s
  outs := spec_l31Load_l2o
  es := [.exit 4]
  step := fun rec K x => spec_l31Load_l2_step F K.1 rec x
abbrev spec_l31Load_l1s : List Sh := [.val (.ptr Tc66acf8c) .no, .dead, .dead, .val (.sl Tiss) (.own none .no), .val (.ptr TiSqsiiiiiip) .no, .dead, .dead, .val (.sl (.int .i64)) (.own none .no), .val (.int .i64) .no, .dead, .dead, .dead, .dead, .dead, .dead, .dead, .dead, .dead, .dead, .dead, .dead, .dead, .dead, .dead, .dead, .dead, .dead, .dead, .dead, .dead, .dead, .dead, .dead, .dead, .dead, .dead, .dead, .dead, .dead, .dead, .dead, .dead, .dead, .dead, .dead, .dead, .dead, .dead, .dead, .dead, .dead, .dead, .dead, .dead, .dead, .dead, .dead, .dead, .dead, .dead, .dead, .dead, .dead, .dead, .dead, .dead, .dead, .dead, .dead, .dead, .dead, .dead, .dead, .dead, .dead, .dead, .dead, .dead, .dead, .dead, .dead, .dead, .dead, .dead, .dead, .dead, .dead, .dead, .dead, .dead, .dead, .dead, .dead, .dead, .dead, .dead, .dead, .dead, .dead, .dead, .dead, .dead, .dead, .dead, .dead, .dead, .dead, .dead, .dead, .dead, .dead, .dead, .dead, .dead, .dead, .dead, .dead, .dead, .dead, .dead, .dead, .dead, .dead, .dead, .dead, .dead, .dead, .dead, .dead, .dead, .dead, .dead, .dead, .dead, .dead, .dead, .dead, .dead, .dead, .dead, .dead, .dead, .dead, .dead, .dead, .dead, .dead, .dead, .dead]
abbrev spec_l31Load_l1o : List (Ex × List Sh) := [(.exit 2, [.val (.ptr Tc66acf8c) .no, .dead, .dead, .val (.sl Tiss) (.own none .no), .val (.ptr TiSqsiiiiiip) .no, .dead, .dead, .dead, .dead, .dead, .dead, .dead, .dead, .dead, .dead, .dead, .dead, .dead, .dead, .dead, .dead, .dead, .dead, .dead, .dead, .dead, .dead, .dead, .dead, .dead, .dead, .dead, .dead, .dead, .dead, .dead, .dead, .dead, .dead, .dead, .dead, .dead, .dead, .dead, .dead, .dead, .dead, .dead, .dead, .dead, .dead, .dead, .dead, .dead, .dead, .dead, .dead, .dead, .dead, .dead, .dead, .dead, .dead, .dead, .dead, .dead, .dead, .dead, .dead, .dead, .dead, .dead, .dead, .dead, .dead, .dead, .dead, .dead, .dead, .dead, .dead, .dead, .dead, .dead, .dead, .dead, .dead, .dead, .dead, .dead, .dead, .dead, .dead, .dead, .dead, .dead, .dead, .dead, .dead, .dead, .dead, .dead, .dead, .dead, .dead, .dead, .dead, .dead, .dead, .dead, .dead, .dead, .dead, .dead, .dead, .dead, .dead, .dead, .dead, .dead, .dead, .dead, .dead, .dead, .dead, .dead, .dead, .dead, .dead, .dead, .dead, .dead, .dead, .dead, .dead, .dead, .dead, .dead, .dead, .dead, .dead, .dead, .dead, .dead, .dead, .dead, .dead, .dead, .dead])]
def spec_l31Load_l1_step {β : Type} (F : Nat) (k0 : El (.ptr Tc66acf8c) × El (.sl Tiss) × El (.ptr TiSqsiiiiiip) × Unit → Option β) (rec : El (.ptr Tc66acf8c) × El (.sl Tiss) × El (.ptr TiSqsiiiiiip) × El (.sl (.int .i64)) × El (.int .i64) × Unit → Option β) (x : El (.ptr Tc66acf8c) × El (.sl Tiss) × El (.ptr TiSqsiiiiiip) × El (.sl (.int .i64)) × El (.int .i64) × Unit) : Option β :=
  cond (decide (x.2.2.2.2.1 < (x.2.2.2.1.length : Int))) (obind (rdAt x.2.2.2.1 x.2.2.2.2.1) fun v9 => obind (rdAt x.1.2.2.1 x.2.2.2.2.1) fun v10 => obind (spec_l03Abs F v10) fun r11 => cond (decide ((IntKind.i64.wrap (v9 - r11.1)) > (0 : Int))) (obind (rdAt x.2.2.1.2.1 x.2.2.2.2.1) fun v12 => obind (spec_l01Dec F (IntKind.i64.wrap (v9 - r11.1))) fun r13 => guardB (decide ((x.2.1.length + ([((5 : Int), (v12.1, (r13.1, ())))]).length) * 40 ≤ 140737488355328)) (rec (x.1, x.2.1 ++ ([((5 : Int), (v12.1, (r13.1, ())))]), x.2.2.1, x.2.2.2.1, IntKind.i64.wrap (x.2.2.2.2.1 + (1 : Int)), ()))) (rec (x.1, x.2.1, x.2.2.1, x.2.2.2.1, IntKind.i64.wrap (x.2.2.2.2.1 + (1 : Int)), ()))) (k0 (x.1, x.2.1, x.2.2.1, ()))
def spec_l31Load_l1 (F : Nat) : LoopFn where
  n := 149
  sh := spec_l31Load_l1s
  outs := spec_l31Load_l1o
  es := [.exit 2]
  step := fun rec K x => spec_l31Load_l1_step F K.1 rec x
abbrev spec_l31Load_l0s : List Sh := [.val (.ptr Tc66acf8c) .no, .dead, .dead, .val (.sl Tiss) (.own none .no), .val (.ptr TiSqsiiiiiip) .no, .val (.sl (.int .i64)) (.own none .no), .val (.int .i64) .no, .dead, .dead, .dead, .dead, .dead, .dead, .dead, .dead, .dead, .dead, .dead, .dead, .dead, .dead, .dead, .dead, .dead, .dead, .dead, .dead, .dead, .dead, .dead, .dead, .dead, .dead, .dead, .dead, .dead, .dead, .dead, .dead, .dead, .dead, .dead, .dead, .dead, .dead, .dead, .dead, .dead, .dead, .dead, .dead, .dead, .dead, .dead, .dead, .dead, .dead, .dead, .dead, .dead, .dead, .dead, .dead, .dead, .dead, .dead, .dead, .dead, .dead, .dead, .dead, .dead, .dead, .dead, .dead, .dead, .dead, .dead, .dead, .dead, .dead, .dead, .dead, .dead, .dead, .dead, .dead, .dead, .dead, .dead, .dead, .dead, .dead, .dead, .dead, .dead, .dead, .dead, .dead, .dead, .dead, .dead, .dead, .dead, .dead, .dead, .dead, .dead, .dead, .dead, .dead, .dead, .dead, .dead, .dead, .dead, .dead, .dead, .dead, .dead, .dead, .dead, .dead, .dead, .dead, .dead, .dead, .dead, .dead, .dead, .dead, .dead, .dead, .dead, .dead, .dead, .dead, .dead, .dead, .dead, .dead, .dead, .dead, .dead, .dead, .dead, .dead, .dead, .dead]
abbrev spec_l31Load_l0o : List (Ex × List Sh) := [(.exit 0, [.val (.ptr Tc66acf8c) .no, .dead, .dead, .val (.sl Tiss) (.own none .no), .val (.ptr TiSqsiiiiiip) .no, .dead, .dead, .dead, .dead, .dead, .dead, .dead, .dead, .dead, .dead, .dead, .dead, .dead, .dead, .dead, .dead, .dead, .dead, .dead, .dead, .dead, .dead, .dead, .dead, .dead, .dead, .dead, .dead, .dead, .dead, .dead, .dead, .dead, .dead, .dead, .dead, .dead, .dead, .dead, .dead, .dead, .dead, .dead, .dead, .dead, .dead, .dead, .dead, .dead, .dead, .dead, .dead, .dead, .dead, .dead, .dead, .dead, .dead, .dead, .dead, .dead, .dead, .dead, .dead, .dead, .dead, .dead, .dead, .dead, .dead, .dead, .dead, .dead, .dead, .dead, .dead, .dead, .dead, .dead, .dead, .dead, .dead, .dead, .dead, .dead, .dead, .dead, .dead, .dead, .dead, .dead, .dead, .dead, .dead, .dead, .dead, .dead, .dead, .dead, .dead, .dead, .dead, .dead, .dead, .dead, .dead, .dead, .dead, .dead, .dead, .dead, .dead, .dead, .dead, .dead, .dead, .dead, .dead, .dead, .dead, .dead, .dead, .dead, .dead, .dead, .dead, .dead, .dead, .dead, .dead, .dead, .dead, .dead, .dead, .dead, .dead, .dead, .dead, .dead, .dead, .dead, .dead, .dead, .dead])]
def spec_l31Load_l0_step {β : Type} (F : Nat) (k0 : El (.ptr Tc66acf8c) × El (.sl Tiss) × El (.ptr TiSqsiiiiiip) × Unit → Option β) (rec : El (.ptr Tc66acf8c) × El (.sl Tiss) × El (.ptr TiSqsiiiiiip) × El (.sl (.int .i64)) × El (.int .i64) × Unit → Option β) (x : El (.ptr Tc66acf8c) × El (.sl Tiss) × El (.ptr TiSqsiiiiiip) × El (.sl (.int .i64)) × El (.int .i64) × Unit) : Option β :=
  cond (decide (x.2.2.2.2.1 < (x.2.2.2.1.length : Int))) (obind (rdAt x.2.2.2.1 x.2.2.2.2.1) fun v2 => cond (decide (v2 > x.1.2.2.2.2.2.1)) (obind (rdAt x.2.2.1.2.1 x.2.2.2.2.1) fun v3 => obind (rdAt x.2.2.2.1 x.2.2.2.2.1) fun v4 => obind (spec_l01Dec F v4) fun r5 => guardB (decide ((x.2.1.length + ([((4 : Int), (v3.1, (r5.1, ())))]).length) * 40 ≤ 140737488355328)) (rec (x.1, x.2.1 ++ ([((4 : Int), (v3.1, (r5.1, ())))]), x.2.2.1, x.2.2.2.1, IntKind.i64.wrap (x.2.2.2.2.1 + (1 : Int)), ()))) (rec (x.1, x.2.1, x.2.2.1, x.2.2.2.1, IntKind.i64.wrap (x.2.2.2.2.1 + (1 : Int)), ()))) (k0 (x.1, x.2.1, x.2.2.1, ()))
def spec_l31Load_l0 (F : Nat) : LoopFn where
  n := 149
  sh := spec_l31Load_l0s
  outs := spec_l31Load_l0o
  es := [.exit 0]
  step := fun rec K x => spec_l31Load_l0_step F K.1 rec x
/-- loop.example/g01021/spec.l31Load -/
def spec_l31Load (F : Nat) (x0 : El (.ptr Tc66acf8c)) : Option (Outs [((.sl Tiss), (.own none (.pr .no (.pr .no (.pr .no .no)))))]) :=
  obind (spec_l13Ends F x0.1.1 x0.2.2.1 x0.2.2.2.2.1) fun r1 => runP (spec_l31Load_l0_step F (fun y6 => obind (spec_l23All F y6.1.2.2.2.2.2.2.1) fun r7 => obind (spec_l23Needs F y6.2.2.1 y6.1.2.2.2.2.2.2.1 r7.1) fun r8 => runP (spec_l31Load_l1_step F (fun y14 => runP (spec_l31Load_l2_step F (fun y20 => some (y20.1, ()))) none F (y14.1, y14.2.1, y14.2.2.1, (0 : Int), ()))) none F (y6.1, y6.2.1, y6.2.2.1, r8.1, (0 : Int), ()))) none F (x0, [], x0.1.1, r1.1, (0 : Int), ())
/-- loop.example/g01021/spec.l31Part -/
def spec_l31Part (F : Nat) (x0 : El (.ptr Tc66acf8c)) (x1 : El (.int .i64)) : Option (Outs [((.sl Tiss), (.own none (.pr .no (.pr .no (.pr .no .no))))), ((.int .i64), .no)]) :=
  obind (spec_l31Ok F x0) fun r1 => cond (!r1.1) (some ([], (1 : Int), ())) (cond (x1 == (1 : Int)) (none) (cond (x1 == (2 : Int)) (obind (spec_l31Load F x0) fun r2 => some (r2.1, (0 : Int), ())) (none)))
/-- loop.example/g01021/spec.LoadProblems -/
def spec_LoadProblems (F : Nat) (x0 : El Tc66acf8c) : Option (Outs [((.sl Tiss), (.own none (.pr .no (.pr .no (.pr .no .no))))), ((.int .i64), .no)]) :=
  obind (spec_l31Part F x0 (2 : Int)) fun r1 => some (r1.1, r1.2.1, ())
/-- loop.example/g01021/impl.within -/
def impl_within (F : Nat) (x0 : El (.int .i64)) (x1 : El (.int .i64)) (x2 : El (.int .i64)) : Option (Outs [(.bool, .no)]) :=
  cond (decide (x0 ≥ x1)) (some (decide (x0 ≤ x2), ())) (some (false, ()))
abbrev impl_onlyNameBytes_l0s : List Sh := [.val .str .no, .dead, .dead, .dead, .dead, .dead, .val (.int .i64) .no, .val (.int .i64) .no, .dead, .dead, .dead, .dead, .dead, .dead, .dead, .dead, .dead, .dead, .dead, .dead, .dead, .dead, .dead, .dead, .dead, .dead, .dead, .dead]
abbrev impl_onlyNameBytes_l0o : List (Ex × List Sh) := [(.ret, [.dead, .dead, .val .bool .no, .dead, .dead, .dead, .dead, .dead, .dead, .dead, .dead, .dead, .dead, .dead, .dead, .dead, .dead, .dead, .dead, .dead, .dead, .dead, .dead, .dead, .dead, .dead, .dead, .dead]), (.exit 0, [.dead, .dead, .dead, .dead, .dead, .dead, .dead, .dead, .dead, .dead, .dead, .dead, .dead, .dead, .dead, .dead, .dead, .dead, .dead, .dead, .dead, .dead, .dead, .dead, .dead, .dead, .dead, .dead])]
def impl_onlyNameBytes_l0_step {β : Type} (F : Nat) (k0 : El .bool × Unit → Option β) (k1 : Unit → Option β) (rec : El .str × El (.int .i64) × El (.int .i64) × Unit → Option β) (x : El .str × El (.int .i64) × El (.int .i64) × Unit) : Option β :=
  cond (decide (x.2.2.1 < x.2.1)) (obind (btAt x.1 x.2.2.1) fun v1 => cond (decide (v1 < (97 : Int))) (cond (decide (v1 < (48 : Int))) (k0 (false, ())) (cond (decide (v1 > (57 : Int))) (k0 (false, ())) (rec (x.1, x.2.1, IntKind.i64.wrap (x.2.2.1 + (1 : Int)), ())))) (cond (decide (v1 > (122 : Int))) (cond (decide (v1 < (48 : Int))) (k0 (false, ())) (cond (decide (v1 > (57 : Int))) (k0 (false, ())) (rec (x.1, x.2.1, IntKind.i64.wrap (x.2.2.1 + (1 : Int)), ())))) (rec (x.1, x.2.1, IntKind.i64.wrap (x.2.2.1 + (1 : Int)), ())))) (k1 (()))
def impl_onlyNameBytes_l0 (F : Nat) : LoopFn where
  n := 28
  sh := impl_onlyNameBytes_l0s
  outs := impl_onlyNameBytes_l0o
  es := [.ret, .exit 0]
  step := fun rec K x => impl_onlyNameBytes_l0_step F K.1 K.2.1 rec x
/-- loop.example/g01021/impl.onlyNameBytes -/
def impl_onlyNameBytes (F : Nat) (x0 : El .str) : Option (Outs [(.bool, .no)]) :=
  runP (impl_onlyNameBytes_l0_step F (fun y2 => some (y2.1, ())) (fun y2 => some (true, ()))) none F (x0, (x0.size : Int), (0 : Int), ())
/-- loop.example/g01021/impl.IsName -/
def impl_IsName (F : Nat) (x0 : El .str) : Option (Outs [(.bool, .no)]) :=
  cond (decide ((x0.size : Int) < (1 : Int))) (some (false, ())) (cond (decide ((x0.size : Int) > (10 : Int))) (some (false, ())) (obind (btAt x0 (0 : Int)) fun v1 => cond (decide (v1 < (97 : Int))) (some (false, ())) (obind (btAt x0 (0 : Int)) fun v2 => cond (decide (v2 > (122 : Int))) (some (false, ())) (obind (impl_onlyNameBytes F x0) fun r3 => some (r3.1, ())))))
/-- loop.example/g01021/impl.junctionOk -/
def impl_junctionOk (F : Nat) (x0 : El (.int .i64)) : Option (Outs [(.bool, .no)]) :=
  obind (impl_within F x0 (0 : Int) (15 : Int)) fun r1 => some (r1.1, ())
/-- loop.example/g01021/impl.ValidAirway -/
def impl_ValidAirway (F : Nat) (x0 : El Tsiiiiii) : Option (Outs [(.bool, .no)]) :=
  obind (impl_IsName F x0.1) fun r1 => cond r1.1 (obind (impl_junctionOk F x0.2.1) fun r2 => cond r2.1 (obind (impl_junctionOk F x0.2.2.1) fun r3 => cond r3.1 (cond (x0.2.1 != x0.2.2.1) (obind (impl_within F x0.2.2.2.1 (1 : Int) (10000 : Int)) fun r4 => cond r4.1 (obind (impl_within F x0.2.2.2.2.1 (50 : Int) (5000 : Int)) fun r5 => cond r5.1 (obind (impl_within F x0.2.2.2.2.2.1 (1 : Int) (1000 : Int)) fun r6 => cond r6.1 (obind (impl_within F x0.2.2.2.2.2.2.1 (0 : Int) (1000 : Int)) fun r7 => some (r7.1, ())) (some (false, ()))) (some (false, ()))) (some (false, ()))) (some (false, ()))) (some (false, ()))) (some (false, ()))) (some (false, ()))
/-- (loop.example/g01021/impl.Mine).hasJunction -/
def impl_Mine_hasJunction (F : Nat) (x0 : El TiSqsiiiiiip) (x1 : El (.int .i64)) : Option (Outs [(.bool, .no)]) :=
  obind (impl_within F x1 (0 : Int) (IntKind.i64.wrap (x0.1 - (1 : Int)))) fun r1 => some (r1.1, ())
/-- (loop.example/g01021/impl.Mine).hasEnds -/
def impl_Mine_hasEnds (F : Nat) (x0 : El TiSqsiiiiiip) (x1 : El Tsiiiiii) : Option (Outs [(.bool, .no)]) :=
  obind (impl_Mine_hasJunction F x0 x1.2.1) fun r1 => cond r1.1 (obind (impl_Mine_hasJunction F x0 x1.2.2.1) fun r2 => some (r2.1, ())) (some (false, ()))
abbrev impl_ValidMine_l0s : List Sh := [.dead, .box none TiSqsiiiiiip (.pr .no (.pr .no .no)), .dead, .dead, .dead, .dead, .dead, .dead, .dead, .dead, .dead, .dead, .dead, .dead, .dead, .dead, .val (.sl Tsiiiiii) .no, .val (.int .i64) .no, .val (.int .i64) .no, .dead, .dead, .dead, .dead, .dead, .dead, .dead, .dead, .dead, .dead, .dead, .dead, .dead, .dead, .dead, .dead, .dead, .dead, .dead, .dead, .dead, .dead, .dead, .dead, .dead, .dead, .dead, .dead, .dead, .dead]
abbrev impl_ValidMine_l0o : List (Ex × List Sh) := [(.ret, [.dead, .dead, .val .bool .no, .dead, .dead, .dead, .dead, .dead, .dead, .dead, .dead, .dead, .dead, .dead, .dead, .dead, .dead, .dead, .dead, .dead, .dead, .dead, .dead, .dead, .dead, .dead, .dead, .dead, .dead, .dead, .dead, .dead, .dead, .dead, .dead, .dead, .dead, .dead, .dead, .dead, .dead, .dead, .dead, .dead, .dead, .dead, .dead, .dead, .dead]), (.exit 0, [.dead, .dead, .dead, .dead, .dead, .dead, .dead, .dead, .dead, .dead, .dead, .dead, .dead, .dead, .dead, .dead, .dead, .dead, .dead, .dead, .dead, .dead, .dead, .dead, .dead, .dead, .dead, .dead, .dead, .dead, .dead, .dead, .dead, .dead, .dead, .dead, .dead, .dead, .dead, .dead, .dead, .dead, .dead, .dead, .dead, .dead, .dead, .dead, .dead])]
def impl_ValidMine_l0_step {β : Type} (F : Nat) (k0 : El .bool × Unit → Option β) (k1 : Unit → Option β) (rec : El TiSqsiiiiiip × El (.sl Tsiiiiii) × El (.int .i64) × El (.int .i64) × Unit → Option β) (x : El TiSqsiiiiiip × El (.sl Tsiiiiii) × El (.int .i64) × El (.int .i64) × Unit) : Option β :=
  cond (decide (x.2.2.2.1 < x.2.2.1)) (obind (rdAt x.2.1 x.2.2.2.1) fun v2 => obind (impl_ValidAirway F v2) fun r3 => cond (!r3.1) (k0 (false, ())) (obind (impl_Mine_hasEnds F x.1 v2) fun r4 => cond (!r4.1) (k0 (false, ())) (cond (decide (x.2.2.2.1 > (0 : Int))) (obind (rdAt x.1.2.1 (IntKind.i64.wrap (x.2.2.2.1 - (1 : Int)))) fun v5 => cond (Op.bytesLess v2.1.toList v5.1.toList || (v2.1.toList == v5.1.toList)) (k0 (false, ())) (rec (x.1, x.2.1, x.2.2.1, IntKind.i64.wrap (x.2.2.2.1 + (1 : Int)), ()))) (rec (x.1, x.2.1, x.2.2.1, IntKind.i64.wrap (x.2.2.2.1 + (1 : Int)), ()))))) (k1 (()))
def impl_ValidMine_l0 (F : Nat) : LoopFn where
  n := 49
  sh := impl_ValidMine_l0s
  outs := impl_ValidMine_l0o
  es := [.ret, .exit 0]
  step := fun rec K x => impl_ValidMine_l0_step F K.1 K.2.1 rec x
/-- loop.example/g01021/impl.ValidMine -/
def impl_ValidMine (F : Nat) (x0 : El TiSqsiiiiiip) : Option (Outs [(.bool, .no)]) :=
  obind (impl_within F x0.1 (1 : Int) (16 : Int)) fun r1 => cond (!r1.1) (some (false, ())) (cond (decide ((x0.2.1.length : Int) > (24 : Int))) (some (false, ())) (runP (impl_ValidMine_l0_step F (fun y6 => some (y6.1, ())) (fun y6 => some (true, ()))) none F (x0, x0.2.1, (x0.2.1.length : Int), (0 : Int), ())))
/-- loop.example/g01021/impl.resistanceOk -/
def impl_resistanceOk (F : Nat) (x0 : El (.int .i64)) : Option (Outs [(.bool, .no)]) :=
  obind (impl_within F x0 (1 : Int) (1000000 : Int)) fun r1 => some (r1.1, ())
/-- loop.example/g01021/impl.ValidDoor -/
def impl_ValidDoor (F : Nat) (x0 : El Tsiii) : Option (Outs [(.bool, .no)]) :=
  obind (impl_IsName F x0.1) fun r1 => cond r1.1 (obind (impl_within F x0.2.1 (0 : Int) (23 : Int)) fun r2 => cond r2.1 (obind (impl_resistanceOk F x0.2.2.2.1) fun r3 => cond r3.1 (obind (impl_within F x0.2.2.1 (1 : Int) x0.2.2.2.1) fun r4 => some (r4.1, ())) (some (false, ()))) (some (false, ()))) (some (false, ()))
/-- loop.example/g01021/impl.indexValid[loop.example/g01021/impl.Airway] -/
def impl_indexValid_Airway (F : Nat) (x0 : El (.sl Tsiiiiii)) (x1 : El (.int .i64)) : Option (Outs [(.bool, .no)]) :=
  obind (impl_within F x1 (0 : Int) (IntKind.i64.wrap ((x0.length : Int) - (1 : Int)))) fun r1 => some (r1.1, ())
/-- loop.example/g01021/impl.ValidDoors$1 -/
def impl_ValidDoors_1 (F : Nat) (x0 : El Tsiii) (x1 : El (.ptr Tsiii)) : Option (Outs [(.bool, .no)]) :=
  some ((x0.2.1 == x1.2.1), ())
abbrev slices_IndexFunc_SDoor_Door_l0s : List Sh := [.val (.sl Tsiii) .no, .val (.fn 224 (.prod (.ptr Tsiii) .unit)) .no, .dead, .dead, .dead, .dead, .dead, .val (.int .i64) .no, .val (.int .i64) .no, .dead, .dead, .dead, .dead, .dead, .dead, .dead, .dead, .dead, .dead]
abbrev slices_IndexFunc_SDoor_Door_l0o : List (Ex × List Sh) := [(.ret, [.dead, .dead, .dead, .dead, .val (.int .i64) .no, .dead, .dead, .dead, .dead, .dead, .dead, .dead, .dead, .dead, .dead, .dead, .dead, .dead, .dead]), (.exit 0, [.dead, .dead, .dead, .dead, .dead, .dead, .dead, .dead, .dead, .dead, .dead, .dead, .dead, .dead, .dead, .dead, .dead, .dead, .dead])]
def slices_IndexFunc_SDoor_Door_l0_step {β : Type} (F : Nat) (k0 : El (.int .i64) × Unit → Option β) (k1 : Unit → Option β) (rec : El (.sl Tsiii) × El (.fn 224 (.prod (.ptr Tsiii) .unit)) × El (.int .i64) × El (.int .i64) × Unit → Option β) (x : El (.sl Tsiii) × El (.fn 224 (.prod (.ptr Tsiii) .unit)) × El (.int .i64) × El (.int .i64) × Unit) : Option β :=
  cond (decide (x.2.2.2.1 < x.2.2.1)) (obind (rdAt x.1 x.2.2.2.1) fun v1 => obind (impl_ValidDoors_1 F v1 x.2.1.1) fun r2 => cond r2.1 (k0 (x.2.2.2.1, ())) (rec (x.1, x.2.1, x.2.2.1, IntKind.i64.wrap (x.2.2.2.1 + (1 : Int)), ()))) (k1 (()))
def slices_IndexFunc_SDoor_Door_l0 (F : Nat) : LoopFn where
  n := 19
  sh := slices_IndexFunc_SDoor_Door_l0s
  outs := slices_IndexFunc_SDoor_Door_l0o
  es := [.ret, .exit 0]
  step := fun rec K x => slices_IndexFunc_SDoor_Door_l0_step F K.1 K.2.1 rec x
/-- slices.IndexFunc[[]loop.example/g01021/impl.Door,loop.example/g01021/impl.Door] -/
def slices_IndexFunc_SDoor_Door (F : Nat) (x0 : El (.sl Tsiii)) (x1 : El (.fn 224 (.prod (.ptr Tsiii) .unit))) : Option (Outs [((.int .i64), .no)]) :=
  runP (slices_IndexFunc_SDoor_Door_l0_step F (fun y3 => some (y3.1, ())) (fun y3 => some ((-1 : Int), ()))) none F (x0, x1, (x0.length : Int), (0 : Int), ())
/-- slices.ContainsFunc[[]loop.example/g01021/impl.Door,loop.example/g01021/impl.Door] -/
def slices_ContainsFunc_SDoor_Door (F : Nat) (x0 : El (.sl Tsiii)) (x1 : El (.fn 224 (.prod (.ptr Tsiii) .unit))) : Option (Outs [(.bool, .no)]) :=
  obind (slices_IndexFunc_SDoor_Door F x0 x1) fun r1 => some (decide (r1.1 ≥ (0 : Int)), ())
abbrev impl_ValidDoors_l0s : List Sh := [.dead, .val (.sl Tsiii) .no, .box none TiSqsiiiiiip (.pr .no (.pr .no .no)), .dead, .dead, .dead, .dead, .dead, .dead, .dead, .dead, .dead, .dead, .dead, .dead, .val (.sl Tsiii) .no, .val (.int .i64) .no, .val (.int .i64) .no, .dead, .dead, .dead, .dead, .dead, .dead, .dead, .dead, .dead, .dead, .dead, .dead, .dead, .dead, .dead, .dead, .dead, .dead, .dead, .dead, .dead, .dead, .dead, .dead, .dead, .dead, .dead, .dead, .dead, .dead, .dead, .dead, .dead, .dead, .dead, .dead]
abbrev impl_ValidDoors_l0o : List (Ex × List Sh) := [(.ret, [.dead, .dead, .dead, .dead, .val .bool .no, .dead, .dead, .dead, .dead, .dead, .dead, .dead, .dead, .dead, .dead, .dead, .dead, .dead, .dead, .dead, .dead, .dead, .dead, .dead, .dead, .dead, .dead, .dead, .dead, .dead, .dead, .dead, .dead, .dead, .dead, .dead, .dead, .dead, .dead, .dead, .dead, .dead, .dead, .dead, .dead, .dead, .dead, .dead, .dead, .dead, .dead, .dead, .dead, .dead]), (.exit 0, [.dead, .dead, .dead, .dead, .dead, .dead, .dead, .dead, .dead, .dead, .dead, .dead, .dead, .dead, .dead, .dead, .dead, .dead, .dead, .dead, .dead, .dead, .dead, .dead, .dead, .dead, .dead, .dead, .dead, .dead, .dead, .dead, .dead, .dead, .dead, .dead, .dead, .dead, .dead, .dead, .dead, .dead, .dead, .dead, .dead, .dead, .dead, .dead, .dead, .dead, .dead, .dead, .dead, .dead])]
def impl_ValidDoors_l0_step {β : Type} (F : Nat) (k0 : El .bool × Unit → Option β) (k1 : Unit → Option β) (rec : El (.sl Tsiii) × El TiSqsiiiiiip × El (.sl Tsiii) × El (.int .i64) × El (.int .i64) × Unit → Option β) (x : El (.sl Tsiii) × El TiSqsiiiiiip × El (.sl Tsiii) × El (.int .i64) × El (.int .i64) × Unit) : Option β :=
  cond (decide (x.2.2.2.2.1 < x.2.2.2.1)) (obind (rdAt x.2.2.1 x.2.2.2.2.1) fun v2 => obind (impl_ValidDoor F v2) fun r3 => cond (!r3.1) (k0 (false, ())) (obind (impl_indexValid_Airway F x.2.1.2.1 v2.2.1) fun r4 => cond (!r4.1) (k0 (false, ())) (cond (decide (x.2.2.2.2.1 > (0 : Int))) (obind (rdAt x.1 (IntKind.i64.wrap (x.2.2.2.2.1 - (1 : Int)))) fun v5 => cond (Op.bytesLess v2.1.toList v5.1.toList || (v2.1.toList == v5.1.toList)) (k0 (false, ())) (guardB (decide ((0 : Int) ≤ x.2.2.2.2.1)) (guardB (decide (x.2.2.2.2.1 ≤ (x.1.length : Int))) (obind (slices_ContainsFunc_SDoor_Door F ((x.1.take x.2.2.2.2.1.toNat).drop (0 : Int).toNat) (v2, ())) fun r6 => cond r6.1 (k0 (false, ())) (rec (x.1, x.2.1, x.2.2.1, x.2.2.2.1, IntKind.i64.wrap (x.2.2.2.2.1 + (1 : Int)), ())))))) (guardB (decide ((0 : Int) ≤ x.2.2.2.2.1)) (guardB (decide (x.2.2.2.2.1 ≤ (x.1.length : Int))) (obind (slices_ContainsFunc_SDoor_Door F ((x.1.take x.2.2.2.2.1.toNat).drop (0 : Int).toNat) (v2, ())) fun r7 => cond r7.1 (k0 (false, ())) (rec (x.1, x.2.1, x.2.2.1, x.2.2.2.1, IntKind.i64.wrap (x.2.2.2.2.1 + (1 : Int)), ())))))))) (k1 (()))
def impl_ValidDoors_l0 (F : Nat) : LoopFn where
  n := 54
  sh := impl_ValidDoors_l0s
  outs := impl_ValidDoors_l0o
  es := [.ret, .exit 0]
  step := fun rec K x => impl_ValidDoors_l0_step F K.1 K.2.1 rec x
/-- loop.example/g01021/impl.ValidDoors -/
def impl_ValidDoors (F : Nat) (x0 : El TiSqsiiiiiip) (x1 : El (.sl Tsiii)) : Option (Outs [(.bool, .no)]) :=
  obind (impl_ValidMine F x0) fun r1 => cond (!r1.1) (some (false, ())) (cond (decide ((x1.length : Int) > (8 : Int))) (some (false, ())) (runP (impl_ValidDoors_l0_step F (fun y8 => some (y8.1, ())) (fun y8 => some (true, ()))) none F (x1, x0, x1, (x1.length : Int), (0 : Int), ())))
/-- cmp.isNaN[int64] -/
def cmp_isNaN_int64 (F : Nat) (x0 : El (.int .i64)) : Option (Outs [(.bool, .no)]) :=
  some ((x0 != x0), ())
/-- cmp.Compare[int64] -/
def cmp_Compare_int64 (F : Nat) (x0 : El (.int .i64)) (x1 : El (.int .i64)) : Option (Outs [((.int .i64), .no)]) :=
  obind (cmp_isNaN_int64 F x0) fun r1 => obind (cmp_isNaN_int64 F x1) fun r2 => cond r1.1 (cond r2.1 (some ((0 : Int), ())) (some ((-1 : Int), ()))) (cond r2.1 (some ((1 : Int), ())) (cond (decide (x0 < x1)) (some ((-1 : Int), ())) (cond (decide (x0 > x1)) (some ((1 : Int), ())) (some ((0 : Int), ())))))
abbrev slices_Compare_Sint64_int64_l0s : List Sh := [.val (.sl (.int .i64)) .no, .val (.sl (.int .i64)) .no, .dead, .dead, .dead, .dead, .dead, .dead, .dead, .val (.sl (.int .i64)) .no, .val (.int .i64) .no, .val (.int .i64) .no, .dead, .dead, .dead, .dead, .dead, .dead, .dead, .dead, .dead, .dead, .dead, .dead, .dead, .dead, .dead, .dead, .dead, .dead, .dead, .dead, .dead, .dead, .dead, .dead]
abbrev slices_Compare_Sint64_int64_l0o : List (Ex × List Sh) := [(.ret, [.dead, .dead, .dead, .dead, .val (.int .i64) .no, .dead, .dead, .dead, .dead, .dead, .dead, .dead, .dead, .dead, .dead, .dead, .dead, .dead, .dead, .dead, .dead, .dead, .dead, .dead, .dead, .dead, .dead, .dead, .dead, .dead, .dead, .dead, .dead, .dead, .dead, .dead]), (.exit 0, [.val (.sl (.int .i64)) .no, .val (.sl (.int .i64)) .no, .dead, .dead, .dead, .dead, .dead, .dead, .dead, .dead, .dead, .dead, .dead, .dead, .dead, .dead, .dead, .dead, .dead, .dead, .dead, .dead, .dead, .dead, .dead, .dead, .dead, .dead, .dead, .dead, .dead, .dead, .dead, .dead, .dead, .dead])]
def slices_Compare_Sint64_int64_l0_step {β : Type} (F : Nat) (k0 : El (.int .i64) × Unit → Option β) (k1 : El (.sl (.int .i64)) × El (.sl (.int .i64)) × Unit → Option β) (rec : El (.sl (.int .i64)) × El (.sl (.int .i64)) × El (.sl (.int .i64)) × El (.int .i64) × El (.int .i64) × Unit → Option β) (x : El (.sl (.int .i64)) × El (.sl (.int .i64)) × El (.sl (.int .i64)) × El (.int .i64) × El (.int .i64) × Unit) : Option β :=
  cond (decide (x.2.2.2.2.1 < x.2.2.2.1)) (obind (rdAt x.2.2.1 x.2.2.2.2.1) fun v1 => cond (decide (x.2.2.2.2.1 ≥ (x.2.1.length : Int))) (k0 ((1 : Int), ())) (obind (rdAt x.2.1 x.2.2.2.2.1) fun v2 => obind (cmp_Compare_int64 F v1 v2) fun r3 => cond (r3.1 != (0 : Int)) (k0 (r3.1, ())) (rec (x.1, x.2.1, x.2.2.1, x.2.2.2.1, IntKind.i64.wrap (x.2.2.2.2.1 + (1 : Int)), ())))) (k1 (x.1, x.2.1, ()))
def slices_Compare_Sint64_int64_l0 (F : Nat) : LoopFn where
  n := 36
  sh := slices_Compare_Sint64_int64_l0s
  outs := slices_Compare_Sint64_int64_l0o
  es := [.ret, .exit 0]
  step := fun rec K x => slices_Compare_Sint64_int64_l0_step F K.1 K.2.1 rec x
/-- slices.Compare[[]int64,int64] -/
def slices_Compare_Sint64_int64 (F : Nat) (x0 : El (.sl (.int .i64))) (x1 : El (.sl (.int .i64))) : Option (Outs [((.int .i64), .no)]) :=
  runP (slices_Compare_Sint64_int64_l0_step F (fun y4 => some (y4.1, ())) (fun y4 => cond (decide ((y4.1.length : Int) < (y4.2.1.length : Int))) (some ((-1 : Int), ())) (some ((0 : Int), ())))) none F (x0, x1, x0, (x0.length : Int), (0 : Int), ())
abbrev impl_ValidLocks_l0s : List Sh := [.val (.int .i64) .no, .val (.sl (.sl (.int .i64))) .no, .dead, .dead, .dead, .dead, .dead, .dead, .dead, .dead, .dead, .dead, .dead, .dead, .dead, .val (.sl (.sl (.int .i64))) .no, .val (.int .i64) .no, .val (.int .i64) .no, .dead, .dead, .dead, .dead, .dead, .dead, .dead, .dead, .dead, .dead, .dead, .dead, .dead, .dead, .dead, .dead, .dead, .dead, .dead, .dead, .dead, .dead, .dead, .dead, .dead, .dead, .dead, .dead, .dead, .dead, .dead, .dead, .dead, .dead, .dead, .dead, .dead, .dead, .dead, .dead, .dead, .dead]
abbrev impl_ValidLocks_l0o : List (Ex × List Sh) := [(.ret, [.dead, .dead, .dead, .dead, .val .bool .no, .dead, .dead, .dead, .dead, .dead, .dead, .dead, .dead, .dead, .dead, .dead, .dead, .dead, .dead, .dead, .dead, .dead, .dead, .dead, .dead, .dead, .dead, .dead, .dead, .dead, .dead, .dead, .dead, .dead, .dead, .dead, .dead, .dead, .dead, .dead, .dead, .dead, .dead, .dead, .dead, .dead, .dead, .dead, .dead, .dead, .dead, .dead, .dead, .dead, .dead, .dead, .dead, .dead, .dead, .dead]), (.exit 0, [.dead, .dead, .dead, .dead, .dead, .dead, .dead, .dead, .dead, .dead, .dead, .dead, .dead, .dead, .dead, .dead, .dead, .dead, .dead, .dead, .dead, .dead, .dead, .dead, .dead, .dead, .dead, .dead, .dead, .dead, .dead, .dead, .dead, .dead, .dead, .dead, .dead, .dead, .dead, .dead, .dead, .dead, .dead, .dead, .dead, .dead, .dead, .dead, .dead, .dead, .dead, .dead, .dead, .dead, .dead, .dead, .dead, .dead, .dead, .dead])]
def impl_ValidLocks_l0_step {β : Type} (F : Nat) (k0 : El .bool × Unit → Option β) (k1 : Unit → Option β) (rec : El (.int .i64) × El (.sl (.sl (.int .i64))) × El (.sl (.sl (.int .i64))) × El (.int .i64) × El (.int .i64) × Unit → Option β) (x : El (.int .i64) × El (.sl (.sl (.int .i64))) × El (.sl (.sl (.int .i64))) × El (.int .i64) × El (.int .i64) × Unit) : Option β :=
  cond (decide (x.2.2.2.2.1 < x.2.2.2.1)) (obind (rdAt x.2.2.1 x.2.2.2.2.1) fun v2 => cond ((v2.length : Int) != (2 : Int)) (k0 (false, ())) (obind (rdAt v2 (1 : Int)) fun v3 => obind (impl_within F v3 (0 : Int) (IntKind.i64.wrap (x.1 - (1 : Int)))) fun r4 => cond (!r4.1) (k0 (false, ())) (obind (rdAt v2 (0 : Int)) fun v5 => obind (rdAt v2 (1 : Int)) fun v6 => obind (impl_within F v5 (0 : Int) (IntKind.i64.wrap (v6 - (1 : Int)))) fun r7 => cond (!r7.1) (k0 (false, ())) (cond (decide (x.2.2.2.2.1 > (0 : Int))) (obind (rdAt x.2.1 (IntKind.i64.wrap (x.2.2.2.2.1 - (1 : Int)))) fun v8 => obind (slices_Compare_Sint64_int64 F v8 v2) fun r9 => cond (decide (r9.1 ≥ (0 : Int))) (k0 (false, ())) (rec (x.1, x.2.1, x.2.2.1, x.2.2.2.1, IntKind.i64.wrap (x.2.2.2.2.1 + (1 : Int)), ()))) (rec (x.1, x.2.1, x.2.2.1, x.2.2.2.1, IntKind.i64.wrap (x.2.2.2.2.1 + (1 : Int)), ())))))) (k1 (()))
def impl_ValidLocks_l0 (F : Nat) : LoopFn where
  n := 60
  sh := impl_ValidLocks_l0s
  outs := impl_ValidLocks_l0o
  es := [.ret, .exit 0]
  step := fun rec K x => impl_ValidLocks_l0_step F K.1 K.2.1 rec x
/-- loop.example/g01021/impl.ValidLocks -/
def impl_ValidLocks (F : Nat) (x0 : El (.int .i64)) (x1 : El (.sl (.sl (.int .i64)))) : Option (Outs [(.bool, .no)]) :=
  obind (impl_within F x0 (0 : Int) (8 : Int)) fun r1 => cond (!r1.1) (some (false, ())) (cond (decide ((x1.length : Int) > (12 : Int))) (some (false, ())) (runP (impl_ValidLocks_l0_step F (fun y10 => some (y10.1, ())) (fun y10 => some (true, ()))) none F (x0, x1, x1, (x1.length : Int), (0 : Int), ())))
abbrev impl_ValidFan_l0s : List Sh := [.dead, .box none TsiSSi (.pr .no (.pr .no (.pr .no .no))), .dead, .dead, .dead, .dead, .dead, .dead, .dead, .dead, .dead, .dead, .dead, .dead, .dead, .dead, .dead, .dead, .dead, .dead, .dead, .dead, .dead, .dead, .dead, .dead, .dead, .dead, .val (.sl (.sl (.int .i64))) .no, .val (.int .i64) .no, .val (.int .i64) .no, .dead, .dead, .dead, .dead, .dead, .dead, .dead, .dead, .dead, .dead, .dead, .dead, .dead, .dead, .dead, .dead, .dead, .dead, .dead, .dead, .dead, .dead, .dead, .dead, .dead, .dead, .dead, .dead, .dead, .dead, .dead, .dead, .dead, .dead, .dead, .dead, .dead, .dead, .dead, .dead, .dead, .dead, .dead, .dead, .dead, .dead, .dead, .dead, .dead, .dead, .dead, .dead, .dead, .dead]
abbrev impl_ValidFan_l0o : List (Ex × List Sh) := [(.ret, [.dead, .dead, .val .bool .no, .dead, .dead, .dead, .dead, .dead, .dead, .dead, .dead, .dead, .dead, .dead, .dead, .dead, .dead, .dead, .dead, .dead, .dead, .dead, .dead, .dead, .dead, .dead, .dead, .dead, .dead, .dead, .dead, .dead, .dead, .dead, .dead, .dead, .dead, .dead, .dead, .dead, .dead, .dead, .dead, .dead, .dead, .dead, .dead, .dead, .dead, .dead, .dead, .dead, .dead, .dead, .dead, .dead, .dead, .dead, .dead, .dead, .dead, .dead, .dead, .dead, .dead, .dead, .dead, .dead, .dead, .dead, .dead, .dead, .dead, .dead, .dead, .dead, .dead, .dead, .dead, .dead, .dead, .dead, .dead, .dead, .dead]), (.exit 0, [.dead, .dead, .dead, .dead, .dead, .dead, .dead, .dead, .dead, .dead, .dead, .dead, .dead, .dead, .dead, .dead, .dead, .dead, .dead, .dead, .dead, .dead, .dead, .dead, .dead, .dead, .dead, .dead, .dead, .dead, .dead, .dead, .dead, .dead, .dead, .dead, .dead, .dead, .dead, .dead, .dead, .dead, .dead, .dead, .dead, .dead, .dead, .dead, .dead, .dead, .dead, .dead, .dead, .dead, .dead, .dead, .dead, .dead, .dead, .dead, .dead, .dead, .dead, .dead, .dead, .dead, .dead, .dead, .dead, .dead, .dead, .dead, .dead, .dead, .dead, .dead, .dead, .dead, .dead, .dead, .dead, .dead, .dead, .dead, .dead])]
def impl_ValidFan_l0_step {β : Type} (F : Nat) (k0 : El .bool × Unit → Option β) (k1 : Unit → Option β) (rec : El TsiSSi × El (.sl (.sl (.int .i64))) × El (.int .i64) × El (.int .i64) × Unit → Option β) (x : El TsiSSi × El (.sl (.sl (.int .i64))) × El (.int .i64) × El (.int .i64) × Unit) : Option β :=
  cond (decide (x.2.2.2.1 < x.2.2.1)) (obind (rdAt x.2.1 x.2.2.2.1) fun v3 => cond ((v3.length : Int) != (2 : Int)) (k0 (false, ())) (obind (rdAt v3 (0 : Int)) fun v4 => obind (impl_within F v4 (0 : Int) (100000 : Int)) fun r5 => cond (!r5.1) (k0 (false, ())) (obind (rdAt v3 (1 : Int)) fun v6 => obind (impl_within F v6 (0 : Int) (10000 : Int)) fun r7 => cond (!r7.1) (k0 (false, ())) (cond (decide (x.2.2.2.1 > (0 : Int))) (obind (rdAt v3 (0 : Int)) fun v8 => obind (rdAt x.1.2.2.1 (IntKind.i64.wrap (x.2.2.2.1 - (1 : Int)))) fun v9 => obind (rdAt v9 (0 : Int)) fun v10 => cond (decide (v8 ≤ v10)) (k0 (false, ())) (obind (rdAt v3 (1 : Int)) fun v11 => obind (rdAt x.1.2.2.1 (IntKind.i64.wrap (x.2.2.2.1 - (1 : Int)))) fun v12 => obind (rdAt v12 (1 : Int)) fun v13 => cond (decide (v11 > v13)) (k0 (false, ())) (rec (x.1, x.2.1, x.2.2.1, IntKind.i64.wrap (x.2.2.2.1 + (1 : Int)), ())))) (rec (x.1, x.2.1, x.2.2.1, IntKind.i64.wrap (x.2.2.2.1 + (1 : Int)), ())))))) (k1 (()))
def impl_ValidFan_l0 (F : Nat) : LoopFn where
  n := 85
  sh := impl_ValidFan_l0s
  outs := impl_ValidFan_l0o
  es := [.ret, .exit 0]
  step := fun rec K x => impl_ValidFan_l0_step F K.1 K.2.1 rec x
/-- loop.example/g01021/impl.ValidFan -/
def impl_ValidFan (F : Nat) (x0 : El TsiSSi) : Option (Outs [(.bool, .no)]) :=
  obind (impl_IsName F x0.1) fun r1 => cond (!r1.1) (some (false, ())) (obind (impl_within F x0.2.1 (0 : Int) (23 : Int)) fun r2 => cond (!r2.1) (some (false, ())) (cond (decide ((x0.2.2.1.length : Int) < (2 : Int))) (some (false, ())) (cond (decide ((x0.2.2.1.length : Int) > (8 : Int))) (some (false, ())) (runP (impl_ValidFan_l0_step F (fun y14 => some (y14.1, ())) (fun y14 => some (true, ()))) none F (x0, x0.2.2.1, (x0.2.2.1.length : Int), (0 : Int), ())))))
abbrev impl_ValidFans_l0s : List Sh := [.val (.sl TsiSSi) .no, .dead, .dead, .dead, .dead, .dead, .dead, .dead, .val (.sl TsiSSi) .no, .val (.int .i64) .no, .val (.int .i64) .no, .dead, .dead, .dead, .dead, .dead, .dead, .dead, .dead, .dead, .dead, .dead, .dead, .dead, .dead, .dead, .dead, .dead, .dead, .dead, .dead, .dead, .dead, .dead]
abbrev impl_ValidFans_l0o : List (Ex × List Sh) := [(.ret, [.dead, .dead, .val .bool .no, .dead, .dead, .dead, .dead, .dead, .dead, .dead, .dead, .dead, .dead, .dead, .dead, .dead, .dead, .dead, .dead, .dead, .dead, .dead, .dead, .dead, .dead, .dead, .dead, .dead, .dead, .dead, .dead, .dead, .dead, .dead]), (.exit 0, [.dead, .dead, .dead, .dead, .dead, .dead, .dead, .dead, .dead, .dead, .dead, .dead, .dead, .dead, .dead, .dead, .dead, .dead, .dead, .dead, .dead, .dead, .dead, .dead, .dead, .dead, .dead, .dead, .dead, .dead, .dead, .dead, .dead, .dead])]
def impl_ValidFans_l0_step {β : Type} (F : Nat) (k0 : El .bool × Unit → Option β) (k1 : Unit → Option β) (rec : El (.sl TsiSSi) × El (.sl TsiSSi) × El (.int .i64) × El (.int .i64) × Unit → Option β) (x : El (.sl TsiSSi) × El (.sl TsiSSi) × El (.int .i64) × El (.int .i64) × Unit) : Option β :=
  cond (decide (x.2.2.2.1 < x.2.2.1)) (obind (rdAt x.2.1 x.2.2.2.1) fun v1 => obind (impl_ValidFan F v1) fun r2 => cond (!r2.1) (k0 (false, ())) (cond (decide (x.2.2.2.1 > (0 : Int))) (obind (rdAt x.1 (IntKind.i64.wrap (x.2.2.2.1 - (1 : Int)))) fun v3 => cond (Op.bytesLess v1.1.toList v3.1.toList || (v1.1.toList == v3.1.toList)) (k0 (false, ())) (rec (x.1, x.2.1, x.2.2.1, IntKind.i64.wrap (x.2.2.2.1 + (1 : Int)), ()))) (rec (x.1, x.2.1, x.2.2.1, IntKind.i64.wrap (x.2.2.2.1 + (1 : Int)), ())))) (k1 (()))
def impl_ValidFans_l0 (F : Nat) : LoopFn where
  n := 34
  sh := impl_ValidFans_l0s
  outs := impl_ValidFans_l0o
  es := [.ret, .exit 0]
  step := fun rec K x => impl_ValidFans_l0_step F K.1 K.2.1 rec x
/-- loop.example/g01021/impl.ValidFans -/
def impl_ValidFans (F : Nat) (x0 : El (.sl TsiSSi)) : Option (Outs [(.bool, .no)]) :=
  cond (decide ((x0.length : Int) > (8 : Int))) (some (false, ())) (runP (impl_ValidFans_l0_step F (fun y4 => some (y4.1, ())) (fun y4 => some (true, ()))) none F (x0, x0, (x0.length : Int), (0 : Int), ()))
/-- (loop.example/g01021/impl.Mine).hasFans$1 -/
def impl_Mine_hasFans_1 (F : Nat) (x0 : El TsiSSi) (x1 : El (.ptr TiSqsiiiiiip)) : Option (Outs [(.bool, .no)]) :=
  obind (impl_indexValid_Airway F x1.2.1 x0.2.1) fun r1 => some (!r1.1, ())
abbrev slices_IndexFunc_SFan_Fan_l0s : List Sh := [.val (.sl TsiSSi) .no, .val (.fn 250 (.prod (.ptr TiSqsiiiiiip) .unit)) .no, .dead, .dead, .dead, .dead, .dead, .val (.int .i64) .no, .val (.int .i64) .no, .dead, .dead, .dead, .dead, .dead, .dead, .dead, .dead, .dead, .dead]
abbrev slices_IndexFunc_SFan_Fan_l0o : List (Ex × List Sh) := [(.ret, [.dead, .dead, .dead, .dead, .val (.int .i64) .no, .dead, .dead, .dead, .dead, .dead, .dead, .dead, .dead, .dead, .dead, .dead, .dead, .dead, .dead]), (.exit 0, [.dead, .dead, .dead, .dead, .dead, .dead, .dead, .dead, .dead, .dead, .dead, .dead, .dead, .dead, .dead, .dead, .dead, .dead, .dead])]
def slices_IndexFunc_SFan_Fan_l0_step {β : Type} (F : Nat) (k0 : El (.int .i64) × Unit → Option β) (k1 : Unit → Option β) (rec : El (.sl TsiSSi) × El (.fn 250 (.prod (.ptr TiSqsiiiiiip) .unit)) × El (.int .i64) × El (.int .i64) × Unit → Option β) (x : El (.sl TsiSSi) × El (.fn 250 (.prod (.ptr TiSqsiiiiiip) .unit)) × El (.int .i64) × El (.int .i64) × Unit) : Option β :=
  cond (decide (x.2.2.2.1 < x.2.2.1)) (obind (rdAt x.1 x.2.2.2.1) fun v1 => obind (impl_Mine_hasFans_1 F v1 x.2.1.1) fun r2 => cond r2.1 (k0 (x.2.2.2.1, ())) (rec (x.1, x.2.1, x.2.2.1, IntKind.i64.wrap (x.2.2.2.1 + (1 : Int)), ()))) (k1 (()))
def slices_IndexFunc_SFan_Fan_l0 (F : Nat) : LoopFn where
  n := 19
  sh := slices_IndexFunc_SFan_Fan_l0s
  outs := slices_IndexFunc_SFan_Fan_l0o
  es := [.ret, .exit 0]
  step := fun rec K x => slices_IndexFunc_SFan_Fan_l0_step F K.1 K.2.1 rec x
/-- slices.IndexFunc[[]loop.example/g01021/impl.Fan,loop.example/g01021/impl.Fan] -/
def slices_IndexFunc_SFan_Fan (F : Nat) (x0 : El (.sl TsiSSi)) (x1 : El (.fn 250 (.prod (.ptr TiSqsiiiiiip) .unit))) : Option (Outs [((.int .i64), .no)]) :=
  runP (slices_IndexFunc_SFan_Fan_l0_step F (fun y3 => some (y3.1, ())) (fun y3 => some ((-1 : Int), ()))) none F (x0, x1, (x0.length : Int), (0 : Int), ())
/-- slices.ContainsFunc[[]loop.example/g01021/impl.Fan,loop.example/g01021/impl.Fan] -/
def slices_ContainsFunc_SFan_Fan (F : Nat) (x0 : El (.sl TsiSSi)) (x1 : El (.fn 250 (.prod (.ptr TiSqsiiiiiip) .unit))) : Option (Outs [(.bool, .no)]) :=
  obind (slices_IndexFunc_SFan_Fan F x0 x1) fun r1 => some (decide (r1.1 ≥ (0 : Int)), ())
/-- (loop.example/g01021/impl.Mine).hasFans -/
def impl_Mine_hasFans (F : Nat) (x0 : El TiSqsiiiiiip) (x1 : El (.sl TsiSSi)) : Option (Outs [(.bool, .no)]) :=
  obind (slices_ContainsFunc_SFan_Fan F x1 (x0, ())) fun r1 => some (!r1.1, ())
/-- loop.example/g01021/impl.allWithin$1 -/
def impl_allWithin_1 (F : Nat) (x0 : El (.int .i64)) (x1 : El (.ptr (.int .i64))) (x2 : El (.ptr (.int .i64))) : Option (Outs [(.bool, .no)]) :=
  obind (impl_within F x0 x1 x2) fun r1 => some (!r1.1, ())
abbrev slices_IndexFunc_Sint64_int64_l0s : List Sh := [.val (.sl (.int .i64)) .no, .val (.fn 227 (.prod (.ptr (.int .i64)) (.prod (.ptr (.int .i64)) .unit))) .no, .dead, .dead, .dead, .dead, .dead, .val (.int .i64) .no, .val (.int .i64) .no, .dead, .dead, .dead, .dead, .dead, .dead, .dead, .dead, .dead, .dead]
abbrev slices_IndexFunc_Sint64_int64_l0o : List (Ex × List Sh) := [(.ret, [.dead, .dead, .dead, .dead, .val (.int .i64) .no, .dead, .dead, .dead, .dead, .dead, .dead, .dead, .dead, .dead, .dead, .dead, .dead, .dead, .dead]), (.exit 0, [.dead, .dead, .dead, .dead, .dead, .dead, .dead, .dead, .dead, .dead, .dead, .dead, .dead, .dead, .dead, .dead, .dead, .dead, .dead])]
def slices_IndexFunc_Sint64_int64_l0_step {β : Type} (F : Nat) (k0 : El (.int .i64) × Unit → Option β) (k1 : Unit → Option β) (rec : El (.sl (.int .i64)) × El (.fn 227 (.prod (.ptr (.int .i64)) (.prod (.ptr (.int .i64)) .unit))) × El (.int .i64) × El (.int .i64) × Unit → Option β) (x : El (.sl (.int .i64)) × El (.fn 227 (.prod (.ptr (.int .i64)) (.prod (.ptr (.int .i64)) .unit))) × El (.int .i64) × El (.int .i64) × Unit) : Option β :=
  cond (decide (x.2.2.2.1 < x.2.2.1)) (obind (rdAt x.1 x.2.2.2.1) fun v1 => obind (impl_allWithin_1 F v1 x.2.1.1 x.2.1.2.1) fun r2 => cond r2.1 (k0 (x.2.2.2.1, ())) (rec (x.1, x.2.1, x.2.2.1, IntKind.i64.wrap (x.2.2.2.1 + (1 : Int)), ()))) (k1 (()))
def slices_IndexFunc_Sint64_int64_l0 (F : Nat) : LoopFn where
  n := 19
  sh := slices_IndexFunc_Sint64_int64_l0s
  outs := slices_IndexFunc_Sint64_int64_l0o
  es := [.ret, .exit 0]
  step := fun rec K x => slices_IndexFunc_Sint64_int64_l0_step F K.1 K.2.1 rec x
/-- slices.IndexFunc[[]int64,int64] -/
def slices_IndexFunc_Sint64_int64 (F : Nat) (x0 : El (.sl (.int .i64))) (x1 : El (.fn 227 (.prod (.ptr (.int .i64)) (.prod (.ptr (.int .i64)) .unit)))) : Option (Outs [((.int .i64), .no)]) :=
  runP (slices_IndexFunc_Sint64_int64_l0_step F (fun y3 => some (y3.1, ())) (fun y3 => some ((-1 : Int), ()))) none F (x0, x1, (x0.length : Int), (0 : Int), ())
/-- slices.ContainsFunc[[]int64,int64] -/
def slices_ContainsFunc_Sint64_int64 (F : Nat) (x0 : El (.sl (.int .i64))) (x1 : El (.fn 227 (.prod (.ptr (.int .i64)) (.prod (.ptr (.int .i64)) .unit)))) : Option (Outs [(.bool, .no)]) :=
  obind (slices_IndexFunc_Sint64_int64 F x0 x1) fun r1 => some (decide (r1.1 ≥ (0 : Int)), ())
/-- loop.example/g01021/impl.allWithin -/
def impl_allWithin (F : Nat) (x0 : El (.sl (.int .i64))) (x1 : El (.int .i64)) (x2 : El (.int .i64)) : Option (Outs [(.bool, .no)]) :=
  obind (slices_ContainsFunc_Sint64_int64 F x0 (x1, (x2, ()))) fun r1 => some (!r1.1, ())
/-- (loop.example/g01021/impl.Mine).hasList -/
def impl_Mine_hasList (F : Nat) (x0 : El TiSqsiiiiiip) (x1 : El (.sl (.int .i64))) (x2 : El (.int .i64)) (x3 : El (.int .i64)) : Option (Outs [(.bool, .no)]) :=
  cond ((x1.length : Int) == (x0.2.1.length : Int)) (obind (impl_allWithin F x1 x2 x3) fun r1 => some (r1.1, ())) (some (false, ()))
/-- loop.example/g01021/impl.ValidPlant -/
def impl_ValidPlant (F : Nat) (x0 : El T9444c66c) : Option (Outs [(.bool, .no)]) :=
  obind (impl_ValidDoors F x0.1 x0.2.1) fun r1 => cond r1.1 (obind (impl_ValidLocks F (x0.2.1.length : Int) x0.2.2.1) fun r2 => cond r2.1 (obind (impl_ValidFans F x0.2.2.2.1) fun r3 => cond r3.1 (obind (impl_Mine_hasFans F x0.1 x0.2.2.2.1) fun r4 => cond r4.1 (obind (impl_Mine_hasList F x0.1 x0.2.2.2.2.1 (-100000 : Int) (100000 : Int)) fun r5 => cond r5.1 (obind (impl_within F x0.2.2.2.2.2.1 (0 : Int) (100000 : Int)) fun r6 => some (r6.1, ())) (some (false, ()))) (some (false, ()))) (some (false, ()))) (some (false, ()))) (some (false, ()))
/-- (loop.example/g01021/impl.Mine).hasFlows -/
def impl_Mine_hasFlows (F : Nat) (x0 : El TiSqsiiiiiip) (x1 : El (.sl (.int .i64))) : Option (Outs [(.bool, .no)]) :=
  obind (impl_Mine_hasList F x0 x1 (-100000 : Int) (100000 : Int)) fun r1 => some (r1.1, ())
/-- loop.example/g01021/impl.flowOk -/
def impl_flowOk (F : Nat) (x0 : El (.int .i64)) : Option (Outs [(.bool, .no)]) :=
  obind (impl_within F x0 (-100000 : Int) (100000 : Int)) fun r1 => some (r1.1, ())
/-- (loop.example/g01021/impl.Want).valid -/
def impl_Want_valid (F : Nat) (x0 : El Tiii) : Option (Outs [(.bool, .no)]) :=
  obind (impl_within F x0.1 (0 : Int) (23 : Int)) fun r1 => cond r1.1 (obind (impl_flowOk F x0.2.1) fun r2 => cond r2.1 (obind (impl_within F x0.2.2.1 x0.2.1 (100000 : Int)) fun r3 => some (r3.1, ())) (some (false, ()))) (some (false, ()))
/-- loop.example/g01021/impl.ValidWants$1 -/
def impl_ValidWants_1 (F : Nat) (x0 : El Tiii) (x1 : El (.ptr TiSqsiiiiiip)) : Option (Outs [(.bool, .no)]) :=
  obind (impl_Want_valid F x0) fun r1 => cond (!r1.1) (some (true, ())) (obind (impl_indexValid_Airway F x1.2.1 x0.1) fun r2 => some (!r2.1, ()))
abbrev slices_IndexFunc_SWant_Want_l0s : List Sh := [.val (.sl Tiii) .no, .val (.fn 208 (.prod (.ptr TiSqsiiiiiip) .unit)) .no, .dead, .dead, .dead, .dead, .dead, .val (.int .i64) .no, .val (.int .i64) .no, .dead, .dead, .dead, .dead, .dead, .dead, .dead, .dead, .dead, .dead]
abbrev slices_IndexFunc_SWant_Want_l0o : List (Ex × List Sh) := [(.ret, [.dead, .dead, .dead, .dead, .val (.int .i64) .no, .dead, .dead, .dead, .dead, .dead, .dead, .dead, .dead, .dead, .dead, .dead, .dead, .dead, .dead]), (.exit 0, [.dead, .dead, .dead, .dead, .dead, .dead, .dead, .dead, .dead, .dead, .dead, .dead, .dead, .dead, .dead, .dead, .dead, .dead, .dead])]
def slices_IndexFunc_SWant_Want_l0_step {β : Type} (F : Nat) (k0 : El (.int .i64) × Unit → Option β) (k1 : Unit → Option β) (rec : El (.sl Tiii) × El (.fn 208 (.prod (.ptr TiSqsiiiiiip) .unit)) × El (.int .i64) × El (.int .i64) × Unit → Option β) (x : El (.sl Tiii) × El (.fn 208 (.prod (.ptr TiSqsiiiiiip) .unit)) × El (.int .i64) × El (.int .i64) × Unit) : Option β :=
  cond (decide (x.2.2.2.1 < x.2.2.1)) (obind (rdAt x.1 x.2.2.2.1) fun v1 => obind (impl_ValidWants_1 F v1 x.2.1.1) fun r2 => cond r2.1 (k0 (x.2.2.2.1, ())) (rec (x.1, x.2.1, x.2.2.1, IntKind.i64.wrap (x.2.2.2.1 + (1 : Int)), ()))) (k1 (()))
def slices_IndexFunc_SWant_Want_l0 (F : Nat) : LoopFn where
  n := 19
  sh := slices_IndexFunc_SWant_Want_l0s
  outs := slices_IndexFunc_SWant_Want_l0o
  es := [.ret, .exit 0]
  step := fun rec K x => slices_IndexFunc_SWant_Want_l0_step F K.1 K.2.1 rec x
/-- slices.IndexFunc[[]loop.example/g01021/impl.Want,loop.example/g01021/impl.Want] -/
def slices_IndexFunc_SWant_Want (F : Nat) (x0 : El (.sl Tiii)) (x1 : El (.fn 208 (.prod (.ptr TiSqsiiiiiip) .unit))) : Option (Outs [((.int .i64), .no)]) :=
  runP (slices_IndexFunc_SWant_Want_l0_step F (fun y3 => some (y3.1, ())) (fun y3 => some ((-1 : Int), ()))) none F (x0, x1, (x0.length : Int), (0 : Int), ())
/-- slices.ContainsFunc[[]loop.example/g01021/impl.Want,loop.example/g01021/impl.Want] -/
def slices_ContainsFunc_SWant_Want (F : Nat) (x0 : El (.sl Tiii)) (x1 : El (.fn 208 (.prod (.ptr TiSqsiiiiiip) .unit))) : Option (Outs [(.bool, .no)]) :=
  obind (slices_IndexFunc_SWant_Want F x0 x1) fun r1 => some (decide (r1.1 ≥ (0 : Int)), ())
/-- loop.example/g01021/impl.ValidWants -/
def impl_ValidWants (F : Nat) (x0 : El TiSqsiiiiiip) (x1 : El (.sl Tiii)) : Option (Outs [(.bool, .no)]) :=
  obind (impl_ValidMine F x0) fun r1 => cond r1.1 (cond (decide ((x1.length : Int) ≤ (12 : Int))) (obind (slices_ContainsFunc_SWant_Want F x1 (x0, ())) fun r2 => some (!r2.1, ())) (some (false, ()))) (some (false, ()))
/-- loop.example/g01021/impl.rateOk -/
def impl_rateOk (F : Nat) (x0 : El (.int .i64)) : Option (Outs [(.bool, .no)]) :=
  obind (impl_within F x0 (0 : Int) (10000000 : Int)) fun r1 => some (r1.1, ())
/-- (loop.example/g01021/impl.Source).valid -/
def impl_Source_valid (F : Nat) (x0 : El Tsii) : Option (Outs [(.bool, .no)]) :=
  obind (impl_IsName F x0.1) fun r1 => cond r1.1 (obind (impl_within F x0.2.1 (0 : Int) (23 : Int)) fun r2 => cond r2.1 (obind (impl_rateOk F x0.2.2.1) fun r3 => some (r3.1, ())) (some (false, ()))) (some (false, ()))
abbrev impl_ValidSources_l0s : List Sh := [.dead, .val (.sl Tsii) .no, .box none TiSqsiiiiiip (.pr .no (.pr .no .no)), .dead, .dead, .dead, .dead, .dead, .dead, .dead, .dead, .dead, .dead, .dead, .dead, .val (.sl Tsii) .no, .val (.int .i64) .no, .val (.int .i64) .no, .dead, .dead, .dead, .dead, .dead, .dead, .dead, .dead, .dead, .dead, .dead, .dead, .dead, .dead, .dead, .dead, .dead, .dead, .dead, .dead, .dead, .dead, .dead, .dead, .dead, .dead, .dead, .dead, .dead, .dead, .dead]
abbrev impl_ValidSources_l0o : List (Ex × List Sh) := [(.ret, [.dead, .dead, .dead, .dead, .val .bool .no, .dead, .dead, .dead, .dead, .dead, .dead, .dead, .dead, .dead, .dead, .dead, .dead, .dead, .dead, .dead, .dead, .dead, .dead, .dead, .dead, .dead, .dead, .dead, .dead, .dead, .dead, .dead, .dead, .dead, .dead, .dead, .dead, .dead, .dead, .dead, .dead, .dead, .dead, .dead, .dead, .dead, .dead, .dead, .dead]), (.exit 0, [.dead, .dead, .dead, .dead, .dead, .dead, .dead, .dead, .dead, .dead, .dead, .dead, .dead, .dead, .dead, .dead, .dead, .dead, .dead, .dead, .dead, .dead, .dead, .dead, .dead, .dead, .dead, .dead, .dead, .dead, .dead, .dead, .dead, .dead, .dead, .dead, .dead, .dead, .dead, .dead, .dead, .dead, .dead, .dead, .dead, .dead, .dead, .dead, .dead])]
def impl_ValidSources_l0_step {β : Type} (F : Nat) (k0 : El .bool × Unit → Option β) (k1 : Unit → Option β) (rec : El (.sl Tsii) × El TiSqsiiiiiip × El (.sl Tsii) × El (.int .i64) × El (.int .i64) × Unit → Option β) (x : El (.sl Tsii) × El TiSqsiiiiiip × El (.sl Tsii) × El (.int .i64) × El (.int .i64) × Unit) : Option β :=
  cond (decide (x.2.2.2.2.1 < x.2.2.2.1)) (obind (rdAt x.2.2.1 x.2.2.2.2.1) fun v2 => obind (impl_Source_valid F v2) fun r3 => cond (!r3.1) (k0 (false, ())) (obind (impl_indexValid_Airway F x.2.1.2.1 v2.2.1) fun r4 => cond (!r4.1) (k0 (false, ())) (cond (decide (x.2.2.2.2.1 > (0 : Int))) (obind (rdAt x.1 (IntKind.i64.wrap (x.2.2.2.2.1 - (1 : Int)))) fun v5 => cond (Op.bytesLess v2.1.toList v5.1.toList || (v2.1.toList == v5.1.toList)) (k0 (false, ())) (rec (x.1, x.2.1, x.2.2.1, x.2.2.2.1, IntKind.i64.wrap (x.2.2.2.2.1 + (1 : Int)), ()))) (rec (x.1, x.2.1, x.2.2.1, x.2.2.2.1, IntKind.i64.wrap (x.2.2.2.2.1 + (1 : Int)), ()))))) (k1 (()))
def impl_ValidSources_l0 (F : Nat) : LoopFn where
  n := 49
  sh := impl_ValidSources_l0s
  outs := impl_ValidSources_l0o
  es := [.ret, .exit 0]
  step := fun rec K x => impl_ValidSources_l0_step F K.1 K.2.1 rec x
/-- loop.example/g01021/impl.ValidSources -/
def impl_ValidSources (F : Nat) (x0 : El TiSqsiiiiiip) (x1 : El (.sl Tsii)) : Option (Outs [(.bool, .no)]) :=
  obind (impl_ValidMine F x0) fun r1 => cond (!r1.1) (some (false, ())) (cond (decide ((x1.length : Int) > (8 : Int))) (some (false, ())) (runP (impl_ValidSources_l0_step F (fun y6 => some (y6.1, ())) (fun y6 => some (true, ()))) none F (x1, x0, x1, (x1.length : Int), (0 : Int), ())))
/-- (loop.example/g01021/impl.Job).valid -/
def impl_Job_valid (F : Nat) (x0 : El Tsiii) : Option (Outs [(.bool, .no)]) :=
  obind (impl_IsName F x0.1) fun r1 => cond r1.1 (obind (impl_within F x0.2.1 (0 : Int) (23 : Int)) fun r2 => cond r2.1 (obind (impl_within F x0.2.2.1 (1 : Int) (40 : Int)) fun r3 => cond r3.1 (obind (impl_within F x0.2.2.2.1 (0 : Int) (500 : Int)) fun r4 => some (r4.1, ())) (some (false, ()))) (some (false, ()))) (some (false, ()))
abbrev impl_ValidJobs_l0s : List Sh := [.dead, .val (.sl Tsiii) .no, .box none TiSqsiiiiiip (.pr .no (.pr .no .no)), .dead, .dead, .dead, .dead, .dead, .dead, .dead, .dead, .dead, .dead, .dead, .dead, .val (.sl Tsiii) .no, .val (.int .i64) .no, .val (.int .i64) .no, .dead, .dead, .dead, .dead, .dead, .dead, .dead, .dead, .dead, .dead, .dead, .dead, .dead, .dead, .dead, .dead, .dead, .dead, .dead, .dead, .dead, .dead, .dead, .dead, .dead, .dead, .dead, .dead, .dead, .dead, .dead]
abbrev impl_ValidJobs_l0o : List (Ex × List Sh) := [(.ret, [.dead, .dead, .dead, .dead, .val .bool .no, .dead, .dead, .dead, .dead, .dead, .dead, .dead, .dead, .dead, .dead, .dead, .dead, .dead, .dead, .dead, .dead, .dead, .dead, .dead, .dead, .dead, .dead, .dead, .dead, .dead, .dead, .dead, .dead, .dead, .dead, .dead, .dead, .dead, .dead, .dead, .dead, .dead, .dead, .dead, .dead, .dead, .dead, .dead, .dead]), (.exit 0, [.dead, .dead, .dead, .dead, .dead, .dead, .dead, .dead, .dead, .dead, .dead, .dead, .dead, .dead, .dead, .dead, .dead, .dead, .dead, .dead, .dead, .dead, .dead, .dead, .dead, .dead, .dead, .dead, .dead, .dead, .dead, .dead, .dead, .dead, .dead, .dead, .dead, .dead, .dead, .dead, .dead, .dead, .dead, .dead, .dead, .dead, .dead, .dead, .dead])]
def impl_ValidJobs_l0_step {β : Type} (F : Nat) (k0 : El .bool × Unit → Option β) (k1 : Unit → Option β) (rec : El (.sl Tsiii) × El TiSqsiiiiiip × El (.sl Tsiii) × El (.int .i64) × El (.int .i64) × Unit → Option β) (x : El (.sl Tsiii) × El TiSqsiiiiiip × El (.sl Tsiii) × El (.int .i64) × El (.int .i64) × Unit) : Option β :=
  cond (decide (x.2.2.2.2.1 < x.2.2.2.1)) (obind (rdAt x.2.2.1 x.2.2.2.2.1) fun v2 => obind (impl_Job_valid F v2) fun r3 => cond (!r3.1) (k0 (false, ())) (obind (impl_indexValid_Airway F x.2.1.2.1 v2.2.1) fun r4 => cond (!r4.1) (k0 (false, ())) (cond (decide (x.2.2.2.2.1 > (0 : Int))) (obind (rdAt x.1 (IntKind.i64.wrap (x.2.2.2.2.1 - (1 : Int)))) fun v5 => cond (Op.bytesLess v2.1.toList v5.1.toList || (v2.1.toList == v5.1.toList)) (k0 (false, ())) (rec (x.1, x.2.1, x.2.2.1, x.2.2.2.1, IntKind.i64.wrap (x.2.2.2.2.1 + (1 : Int)), ()))) (rec (x.1, x.2.1, x.2.2.1, x.2.2.2.1, IntKind.i64.wrap (x.2.2.2.2.1 + (1 : Int)), ()))))) (k1 (()))
def impl_ValidJobs_l0 (F : Nat) : LoopFn where
  n := 49
  sh := impl_ValidJobs_l0s
  outs := impl_ValidJobs_l0o
  es := [.ret, .exit 0]
  step := fun rec K x => impl_ValidJobs_l0_step F K.1 K.2.1 rec x
/-- loop.example/g01021/impl.ValidJobs -/
def impl_ValidJobs (F : Nat) (x0 : El TiSqsiiiiiip) (x1 : El (.sl Tsiii)) : Option (Outs [(.bool, .no)]) :=
  obind (impl_ValidMine F x0) fun r1 => cond (!r1.1) (some (false, ())) (cond (decide ((x1.length : Int) > (12 : Int))) (some (false, ())) (runP (impl_ValidJobs_l0_step F (fun y6 => some (y6.1, ())) (fun y6 => some (true, ()))) none F (x1, x0, x1, (x1.length : Int), (0 : Int), ())))
/-- (loop.example/g01021/impl.Crew).valid -/
def impl_Crew_valid (F : Nat) (x0 : El Tsii) : Option (Outs [(.bool, .no)]) :=
  obind (impl_IsName F x0.1) fun r1 => cond r1.1 (obind (impl_junctionOk F x0.2.1) fun r2 => cond r2.1 (obind (impl_within F x0.2.2.1 (10 : Int) (300 : Int)) fun r3 => some (r3.1, ())) (some (false, ()))) (some (false, ()))
abbrev impl_ValidCrews_l0s : List Sh := [.dead, .val (.sl Tsii) .no, .box none TiSqsiiiiiip (.pr .no (.pr .no .no)), .dead, .dead, .dead, .dead, .dead, .dead, .dead, .dead, .dead, .dead, .dead, .dead, .val (.sl Tsii) .no, .val (.int .i64) .no, .val (.int .i64) .no, .dead, .dead, .dead, .dead, .dead, .dead, .dead, .dead, .dead, .dead, .dead, .dead, .dead, .dead, .dead, .dead, .dead, .dead, .dead, .dead, .dead, .dead, .dead, .dead, .dead, .dead, .dead, .dead, .dead, .dead]
abbrev impl_ValidCrews_l0o : List (Ex × List Sh) := [(.ret, [.dead, .dead, .dead, .dead, .val .bool .no, .dead, .dead, .dead, .dead, .dead, .dead, .dead, .dead, .dead, .dead, .dead, .dead, .dead, .dead, .dead, .dead, .dead, .dead, .dead, .dead, .dead, .dead, .dead, .dead, .dead, .dead, .dead, .dead, .dead, .dead, .dead, .dead, .dead, .dead, .dead, .dead, .dead, .dead, .dead, .dead, .dead, .dead, .dead]), (.exit 0, [.dead, .dead, .dead, .dead, .dead, .dead, .dead, .dead, .dead, .dead, .dead, .dead, .dead, .dead, .dead, .dead, .dead, .dead, .dead, .dead, .dead, .dead, .dead, .dead, .dead, .dead, .dead, .dead, .dead, .dead, .dead, .dead, .dead, .dead, .dead, .dead, .dead, .dead, .dead, .dead, .dead, .dead, .dead, .dead, .dead, .dead, .dead, .dead])]
def impl_ValidCrews_l0_step {β : Type} (F : Nat) (k0 : El .bool × Unit → Option β) (k1 : Unit → Option β) (rec : El (.sl Tsii) × El TiSqsiiiiiip × El (.sl Tsii) × El (.int .i64) × El (.int .i64) × Unit → Option β) (x : El (.sl Tsii) × El TiSqsiiiiiip × El (.sl Tsii) × El (.int .i64) × El (.int .i64) × Unit) : Option β :=
  cond (decide (x.2.2.2.2.1 < x.2.2.2.1)) (obind (rdAt x.2.2.1 x.2.2.2.2.1) fun v2 => obind (impl_Crew_valid F v2) fun r3 => cond (!r3.1) (k0 (false, ())) (obind (impl_Mine_hasJunction F x.2.1 v2.2.1) fun r4 => cond (!r4.1) (k0 (false, ())) (cond (decide (x.2.2.2.2.1 > (0 : Int))) (obind (rdAt x.1 (IntKind.i64.wrap (x.2.2.2.2.1 - (1 : Int)))) fun v5 => cond (Op.bytesLess v2.1.toList v5.1.toList || (v2.1.toList == v5.1.toList)) (k0 (false, ())) (rec (x.1, x.2.1, x.2.2.1, x.2.2.2.1, IntKind.i64.wrap (x.2.2.2.2.1 + (1 : Int)), ()))) (rec (x.1, x.2.1, x.2.2.1, x.2.2.2.1, IntKind.i64.wrap (x.2.2.2.2.1 + (1 : Int)), ()))))) (k1 (()))
def impl_ValidCrews_l0 (F : Nat) : LoopFn where
  n := 48
  sh := impl_ValidCrews_l0s
  outs := impl_ValidCrews_l0o
  es := [.ret, .exit 0]
  step := fun rec K x => impl_ValidCrews_l0_step F K.1 K.2.1 rec x
/-- loop.example/g01021/impl.ValidCrews -/
def impl_ValidCrews (F : Nat) (x0 : El TiSqsiiiiiip) (x1 : El (.sl Tsii)) : Option (Outs [(.bool, .no)]) :=
  obind (impl_ValidMine F x0) fun r1 => cond (!r1.1) (some (false, ())) (cond (decide ((x1.length : Int) > (8 : Int))) (some (false, ())) (runP (impl_ValidCrews_l0_step F (fun y6 => some (y6.1, ())) (fun y6 => some (true, ()))) none F (x1, x0, x1, (x1.length : Int), (0 : Int), ())))
/-- (loop.example/g01021/impl.Fire).valid -/
def impl_Fire_valid (F : Nat) (x0 : El Tiii) : Option (Outs [(.bool, .no)]) :=
  obind (impl_within F x0.1 (0 : Int) (23 : Int)) fun r1 => cond r1.1 (obind (impl_within F x0.2.1 (0 : Int) (10000 : Int)) fun r2 => cond r2.1 (obind (impl_within F x0.2.2.1 (0 : Int) (36000 : Int)) fun r3 => some (r3.1, ())) (some (false, ()))) (some (false, ()))
/-- loop.example/g01021/impl.ValidFire -/
def impl_ValidFire (F : Nat) (x0 : El TiSqsiiiiiip) (x1 : El Tiii) : Option (Outs [(.bool, .no)]) :=
  obind (impl_ValidMine F x0) fun r1 => cond r1.1 (obind (impl_Fire_valid F x1) fun r2 => cond r2.1 (obind (impl_indexValid_Airway F x0.2.1 x1.1) fun r3 => cond r3.1 (obind (rdAt x0.2.1 x1.1) fun v4 => some (decide (x1.2.1 ≤ v4.2.2.2.1), ())) (some (false, ()))) (some (false, ()))) (some (false, ()))
/-- loop.example/g01021/impl.RootOf$1 -/
def impl_RootOf_1 (F : Nat) (x0 : El (.int .i64)) (x1 : El (.ptr (.int .i64))) : Option (Outs [(.bool, .no)]) :=
  some (decide ((IntKind.i64.wrap ((IntKind.i64.wrap (x0 + (1 : Int))) * (IntKind.i64.wrap (x0 + (1 : Int))))) > x1), ())
abbrev sort_Search_l0s : List Sh := [.dead, .val (.fn 286 (.prod (.ptr (.int .i64)) .unit)) .no, .dead, .dead, .dead, .val (.int .i64) .no, .val (.int .i64) .no, .dead, .dead, .dead, .dead, .dead, .dead, .dead, .dead, .dead, .dead, .dead, .dead, .dead, .dead, .dead, .dead, .dead, .dead, .dead]
abbrev sort_Search_l0o : List (Ex × List Sh) := [(.exit 0, [.dead, .dead, .dead, .dead, .dead, .val (.int .i64) .no, .dead, .dead, .dead, .dead, .dead, .dead, .dead, .dead, .dead, .dead, .dead, .dead, .dead, .dead, .dead, .dead, .dead, .dead, .dead, .dead])]
def sort_Search_l0_step {β : Type} (F : Nat) (k0 : El (.int .i64) × Unit → Option β) (rec : El (.fn 286 (.prod (.ptr (.int .i64)) .unit)) × El (.int .i64) × El (.int .i64) × Unit → Option β) (x : El (.fn 286 (.prod (.ptr (.int .i64)) .unit)) × El (.int .i64) × El (.int .i64) × Unit) : Option β :=
  cond (decide (x.2.1 < x.2.2.1)) (guardB (decide ((0 : Int) ≤ (1 : Int))) (obind (impl_RootOf_1 F (IntKind.i64.wrap ((IntKind.u64.wrap (IntKind.i64.wrap (x.2.1 + x.2.2.1))).fdiv (2 ^ (min (1 : Int).toNat IntKind.u64.bits)))) x.1.1) fun r1 => cond (!r1.1) (rec (x.1, IntKind.i64.wrap ((IntKind.i64.wrap ((IntKind.u64.wrap (IntKind.i64.wrap (x.2.1 + x.2.2.1))).fdiv (2 ^ (min (1 : Int).toNat IntKind.u64.bits)))) + (1 : Int)), x.2.2.1, ())) (rec (x.1, x.2.1, IntKind.i64.wrap ((IntKind.u64.wrap (IntKind.i64.wrap (x.2.1 + x.2.2.1))).fdiv (2 ^ (min (1 : Int).toNat IntKind.u64.bits))), ())))) (k0 (x.2.1, ()))
def sort_Search_l0 (F : Nat) : LoopFn where
  n := 26
  sh := sort_Search_l0s
  outs := sort_Search_l0o
  es := [.exit 0]
  step := fun rec K x => sort_Search_l0_step F K.1 rec x
/-- sort.Search -/
def sort_Search (F : Nat) (x0 : El (.int .i64)) (x1 : El (.fn 286 (.prod (.ptr (.int .i64)) .unit))) : Option (Outs [((.int .i64), .no)]) :=
  runP (sort_Search_l0_step F (fun y2 => some (y2.1, ()))) none F (x1, (0 : Int), x0, ())
/-- loop.example/g01021/impl.RootOf -/
def impl_RootOf (F : Nat) (x0 : El (.int .i64)) : Option (Outs [((.int .i64), .no)]) :=
  cond (decide (x0 < (0 : Int))) (some ((0 : Int), ())) (obind (sort_Search F (3037000499 : Int) (x0, ())) fun r1 => some (r1.1, ()))
/-- loop.example/g01021/impl.abs -/
def impl_abs (F : Nat) (x0 : El (.int .i64)) : Option (Outs [((.int .i64), .no)]) :=
  some (max x0 (IntKind.i64.wrap (0 - x0)), ())
/-- loop.example/g01021/impl.divRound -/
def impl_divRound (F : Nat) (x0 : El (.int .i64)) (x1 : El (.int .i64)) : Option (Outs [((.int .i64), .no)]) :=
  guardB (!(x1 == 0)) (guardB (!(x1 == 0)) (obind (impl_abs F (x0.tmod x1)) fun r1 => obind (impl_abs F x1) fun r2 => cond (decide (r1.1 ≥ (IntKind.i64.wrap (r2.1 - r1.1)))) (cond ((decide (x0 < (0 : Int))) == (decide (x1 < (0 : Int)))) (some (IntKind.i64.wrap ((IntKind.i64.wrap (x0.tdiv x1)) + (1 : Int)), ())) (some (IntKind.i64.wrap ((IntKind.i64.wrap (x0.tdiv x1)) - (1 : Int)), ()))) (some (IntKind.i64.wrap (x0.tdiv x1), ()))))
/-- (loop.example/g01021/impl.Airway).resistance -/
def impl_Airway_resistance (F : Nat) (x0 : El Tsiiiiii) : Option (Outs [((.int .i64), .no)]) :=
  obind (impl_RootOf F (IntKind.i64.wrap (x0.2.2.2.2.1 * (10000 : Int)))) fun r1 => obind (impl_divRound F (IntKind.i64.wrap ((IntKind.i64.wrap ((IntKind.i64.wrap (x0.2.2.2.2.2.1 * (IntKind.i64.wrap (x0.2.2.2.1 + x0.2.2.2.2.2.2.1)))) * r1.1)) * (400000 : Int))) (IntKind.i64.wrap ((IntKind.i64.wrap (x0.2.2.2.2.1 * x0.2.2.2.2.1)) * x0.2.2.2.2.1))) fun r2 => some (max r2.1 (1 : Int), ())
abbrev impl_ResistancesOf_l0s : List Sh := [.dead, .dead, .dead, .dead, .val (.sl (.int .i64)) (.own none .no), .dead, .dead, .dead, .dead, .dead, .dead, .val (.sl Tsiiiiii) .no, .val (.int .i64) .no, .val (.int .i64) .no, .dead, .dead, .dead, .dead, .dead, .dead, .dead, .dead, .dead, .dead, .dead, .dead, .dead]
abbrev impl_ResistancesOf_l0o : List (Ex × List Sh) := [(.exit 0, [.dead, .dead, .dead, .dead, .val (.sl (.int .i64)) (.own none .no), .dead, .dead, .dead, .dead, .dead, .dead, .dead, .dead, .dead, .dead, .dead, .dead, .dead, .dead, .dead, .dead, .dead, .dead, .dead, .dead, .dead, .dead])]
def impl_ResistancesOf_l0_step {β : Type} (F : Nat) (k0 : El (.sl (.int .i64)) × Unit → Option β) (rec : El (.sl (.int .i64)) × El (.sl Tsiiiiii) × El (.int .i64) × El (.int .i64) × Unit → Option β) (x : El (.sl (.int .i64)) × El (.sl Tsiiiiii) × El (.int .i64) × El (.int .i64) × Unit) : Option β :=
  cond (decide (x.2.2.2.1 < x.2.2.1)) (obind (rdAt x.2.1 x.2.2.2.1) fun v2 => obind (impl_Airway_resistance F v2) fun r3 => guardB (decide ((x.1.length + ([r3.1]).length) * 8 ≤ 140737488355328)) (rec (x.1 ++ ([r3.1]), x.2.1, x.2.2.1, IntKind.i64.wrap (x.2.2.2.1 + (1 : Int)), ()))) (k0 (x.1, ()))
def impl_ResistancesOf_l0 (F : Nat) : LoopFn where
  n := 27
  sh := impl_ResistancesOf_l0s
  outs := impl_ResistancesOf_l0o
  es := [.exit 0]
  step := fun rec K x => impl_ResistancesOf_l0_step F K.1 rec x
/-- loop.example/g01021/impl.ResistancesOf -/
def impl_ResistancesOf (F : Nat) (x0 : El TiSqsiiiiiip) : Option (Outs [((.sl (.int .i64)), (.own none .no)), ((.int .i64), .no)]) :=
  obind (impl_ValidMine F x0) fun r1 => cond (!r1.1) (some ([], (1 : Int), ())) (runP (impl_ResistancesOf_l0_step F (fun y4 => obind (impl_allWithin F y4.1 (1 : Int) (1000000 : Int)) fun r5 => cond (!r5.1) (some ([], (6 : Int), ())) (some (y4.1, (0 : Int), ())))) none F ([], x0.2.1, (x0.2.1.length : Int), (0 : Int), ()))
abbrev impl_OpenDoors_l0s : List Sh := [.dead, .dead, .val (.sl .bool) .no, .dead, .dead, .dead, .dead, .dead, .val (.sl (.int .i64)) (.own none .no), .dead, .dead, .dead, .dead, .dead, .dead, .dead, .dead, .dead, .dead, .dead, .dead, .dead, .dead, .dead, .dead, .dead, .dead, .dead, .dead, .dead, .dead, .val (.sl Tsiii) .no, .val (.int .i64) .no, .val (.int .i64) .no, .dead, .dead, .dead, .dead, .dead, .dead, .dead, .dead, .dead, .dead, .dead, .dead, .dead, .dead, .dead, .dead, .dead, .dead, .dead, .dead, .dead, .dead, .dead, .dead, .dead, .dead, .dead, .dead, .dead, .dead, .dead]
abbrev impl_OpenDoors_l0o : List (Ex × List Sh) := [(.exit 1, [.dead, .dead, .dead, .dead, .dead, .dead, .dead, .dead, .val (.sl (.int .i64)) (.own none .no), .dead, .dead, .dead, .dead, .dead, .dead, .dead, .dead, .dead, .dead, .dead, .dead, .dead, .dead, .dead, .dead, .dead, .dead, .dead, .dead, .dead, .dead, .dead, .dead, .dead, .dead, .dead, .dead, .dead, .dead, .dead, .dead, .dead, .dead, .dead, .dead, .dead, .dead, .dead, .dead, .dead, .dead, .dead, .dead, .dead, .dead, .dead, .dead, .dead, .dead, .dead, .dead, .dead, .dead, .dead, .dead])]
def impl_OpenDoors_l0_step {β : Type} (F : Nat) (k0 : El (.sl (.int .i64)) × Unit → Option β) (rec : El (.sl .bool) × El (.sl (.int .i64)) × El (.sl Tsiii) × El (.int .i64) × El (.int .i64) × Unit → Option β) (x : El (.sl .bool) × El (.sl (.int .i64)) × El (.sl Tsiii) × El (.int .i64) × El (.int .i64) × Unit) : Option β :=
  cond (decide (x.2.2.2.2.1 < x.2.2.2.1)) (obind (rdAt x.2.2.1 x.2.2.2.2.1) fun v3 => obind (rdAt x.1 x.2.2.2.2.1) fun v4 => cond v4 (obind (rdAt x.2.1 v3.2.1) fun v5 => obind (rdAt x.2.1 v3.2.1) fun v6 => rec (x.1, x.2.1.set v3.2.1.toNat (IntKind.i64.wrap (v5 + v3.2.2.1)), x.2.2.1, x.2.2.2.1, IntKind.i64.wrap (x.2.2.2.2.1 + (1 : Int)), ())) (obind (rdAt x.2.1 v3.2.1) fun v7 => obind (rdAt x.2.1 v3.2.1) fun v8 => rec (x.1, x.2.1.set v3.2.1.toNat (IntKind.i64.wrap (v7 + v3.2.2.2.1)), x.2.2.1, x.2.2.2.1, IntKind.i64.wrap (x.2.2.2.2.1 + (1 : Int)), ()))) (k0 (x.2.1, ()))
def impl_OpenDoors_l0 (F : Nat) : LoopFn where
  n := 65
  sh := impl_OpenDoors_l0s
  outs := impl_OpenDoors_l0o
  es := [.exit 1]
  step := fun rec K x => impl_OpenDoors_l0_step F K.1 rec x
/-- loop.example/g01021/impl.OpenDoors -/
def impl_OpenDoors (F : Nat) (x0 : El TiSqsiiiiiip) (x1 : El (.sl Tsiii)) (x2 : El (.sl .bool)) : Option (Outs [((.sl (.int .i64)), (.own none .no)), ((.int .i64), .no)]) :=
  obind (impl_ValidDoors F x0 x1) fun r1 => cond (!r1.1) (some ([], (1 : Int), ())) (cond ((x2.length : Int) != (x1.length : Int)) (some ([], (7 : Int), ())) (obind (impl_ResistancesOf F x0) fun r2 => cond (r2.2.1 != (0 : Int)) (some ([], r2.2.1, ())) (runP (impl_OpenDoors_l0_step F (fun y9 => obind (impl_allWithin F y9.1 (1 : Int) (1000000 : Int)) fun r10 => cond (!r10.1) (some ([], (6 : Int), ())) (some (y9.1, (0 : Int), ())))) none F (x2, r2.1, x1, (x1.length : Int), (0 : Int), ()))))
abbrev impl_increasing_l0s : List Sh := [.val (.sl (.int .i64)) .no, .dead, .dead, .val (.int .i64) .no, .dead, .dead, .dead, .dead, .dead, .dead, .dead, .dead, .dead, .dead, .dead, .dead, .dead, .dead, .dead, .dead]
abbrev impl_increasing_l0o : List (Ex × List Sh) := [(.ret, [.dead, .dead, .val .bool .no, .dead, .dead, .dead, .dead, .dead, .dead, .dead, .dead, .dead, .dead, .dead, .dead, .dead, .dead, .dead, .dead, .dead]), (.exit 0, [.dead, .dead, .dead, .dead, .dead, .dead, .dead, .dead, .dead, .dead, .dead, .dead, .dead, .dead, .dead, .dead, .dead, .dead, .dead, .dead])]
def impl_increasing_l0_step {β : Type} (F : Nat) (k0 : El .bool × Unit → Option β) (k1 : Unit → Option β) (rec : El (.sl (.int .i64)) × El (.int .i64) × Unit → Option β) (x : El (.sl (.int .i64)) × El (.int .i64) × Unit) : Option β :=
  cond (decide (x.2.1 < (x.1.length : Int))) (obind (rdAt x.1 x.2.1) fun v1 => obind (rdAt x.1 (IntKind.i64.wrap (x.2.1 - (1 : Int)))) fun v2 => cond (decide (v1 ≤ v2)) (k0 (false, ())) (rec (x.1, IntKind.i64.wrap (x.2.1 + (1 : Int)), ()))) (k1 (()))
def impl_increasing_l0 (F : Nat) : LoopFn where
  n := 20
  sh := impl_increasing_l0s
  outs := impl_increasing_l0o
  es := [.ret, .exit 0]
  step := fun rec K x => impl_increasing_l0_step F K.1 K.2.1 rec x
/-- loop.example/g01021/impl.increasing -/
def impl_increasing (F : Nat) (x0 : El (.sl (.int .i64))) : Option (Outs [(.bool, .no)]) :=
  runP (impl_increasing_l0_step F (fun y3 => some (y3.1, ())) (fun y3 => some (true, ()))) none F (x0, (1 : Int), ())
/-- (loop.example/g01021/impl.Mine).hasJunctions -/
def impl_Mine_hasJunctions (F : Nat) (x0 : El TiSqsiiiiiip) (x1 : El (.sl (.int .i64))) : Option (Outs [(.bool, .no)]) :=
  obind (impl_increasing F x1) fun r1 => cond r1.1 (obind (impl_allWithin F x1 (0 : Int) (IntKind.i64.wrap (x0.1 - (1 : Int)))) fun r2 => some (r2.1, ())) (some (false, ()))
end Go.Ev.Z
