/- A part of the proof: lemmas that the law's theorem uses; their conditions stand in each theorem. -/
import Derived.Test.YtbkcabkfbaikkaaGreatDoorDefs
namespace Go.Ev.Z
set_option maxRecDepth 100000
/-- loop.example/g01021/impl.ValidPlan -/
def impl_ValidPlan (F : Nat) (x0 : El Tc66acf8c) : Option (Outs [(.bool, .no)]) :=
  obind (impl_ValidPlant F x0.1) fun r1 => cond (!r1.1) (some (false, ())) (cond ((x0.2.1.length : Int) != (x0.1.2.1.length : Int)) (some (false, ())) (obind (impl_Mine_hasFlows F x0.1.1 x0.2.2.1) fun r2 => cond (!r2.1) (some (false, ())) (obind (impl_ValidWants F x0.1.1 x0.2.2.2.1) fun r3 => cond (!r3.1) (some (false, ())) (obind (impl_ValidSources F x0.1.1 x0.2.2.2.2.1) fun r4 => cond (!r4.1) (some (false, ())) (obind (impl_ValidJobs F x0.1.1 x0.2.2.2.2.2.2.1) fun r5 => cond (!r5.1) (some (false, ())) (obind (impl_ValidCrews F x0.1.1 x0.2.2.2.2.2.2.2.1) fun r6 => cond (!r6.1) (some (false, ())) (obind (impl_ValidFire F x0.1.1 x0.2.2.2.2.2.2.2.2.2.1) fun r7 => cond (!r7.1) (some (false, ())) (obind (impl_OpenDoors F x0.1.1 x0.1.2.1 x0.2.1) fun r8 => cond (r8.2.1 == (0 : Int)) (obind (impl_within F x0.2.2.2.2.2.1 (0 : Int) (1000000 : Int)) fun r9 => cond r9.1 (obind (impl_Mine_hasJunctions F x0.1.1 x0.2.2.2.2.2.2.2.2.1) fun r10 => cond r10.1 (obind (impl_within F x0.2.2.2.2.2.2.2.2.2.2.1 (0 : Int) (36000 : Int)) fun r11 => some (r11.1, ())) (some (false, ()))) (some (false, ()))) (some (false, ()))))))))))
abbrev impl_gasOf_l0s : List Sh := [.dead, .val (.int .i64) .no, .dead, .dead, .dead, .val (.int .i64) .no, .dead, .dead, .val (.sl Tsii) .no, .val (.int .i64) .no, .val (.int .i64) .no, .dead, .dead, .dead, .dead, .dead, .dead, .dead, .dead, .dead, .dead, .dead, .dead, .dead]
abbrev impl_gasOf_l0o : List (Ex × List Sh) := [(.exit 0, [.dead, .dead, .dead, .dead, .dead, .val (.int .i64) .no, .dead, .dead, .dead, .dead, .dead, .dead, .dead, .dead, .dead, .dead, .dead, .dead, .dead, .dead, .dead, .dead, .dead, .dead])]
def impl_gasOf_l0_step {β : Type} (F : Nat) (k0 : El (.int .i64) × Unit → Option β) (rec : El (.int .i64) × El (.int .i64) × El (.sl Tsii) × El (.int .i64) × El (.int .i64) × Unit → Option β) (x : El (.int .i64) × El (.int .i64) × El (.sl Tsii) × El (.int .i64) × El (.int .i64) × Unit) : Option β :=
  cond (decide (x.2.2.2.2.1 < x.2.2.2.1)) (obind (rdAt x.2.2.1 x.2.2.2.2.1) fun v1 => cond (v1.2.1 == x.1) (rec (x.1, IntKind.i64.wrap (x.2.1 + v1.2.2.1), x.2.2.1, x.2.2.2.1, IntKind.i64.wrap (x.2.2.2.2.1 + (1 : Int)), ())) (rec (x.1, x.2.1, x.2.2.1, x.2.2.2.1, IntKind.i64.wrap (x.2.2.2.2.1 + (1 : Int)), ()))) (k0 (x.2.1, ()))
def impl_gasOf_l0 (F : Nat) : LoopFn where
  n := 24
  sh := impl_gasOf_l0s
  outs := impl_gasOf_l0o
  es := [.exit 0]
  step := fun rec K x => impl_gasOf_l0_step F K.1 rec x
/-- loop.example/g01021/impl.gasOf -/
def impl_gasOf (F : Nat) (x0 : El (.sl Tsii)) (x1 : El (.int .i64)) : Option (Outs [((.int .i64), .no)]) :=
  runP (impl_gasOf_l0_step F (fun y2 => some (y2.1, ()))) none F (x1, (0 : Int), x0, (x0.length : Int), (0 : Int), ())
/-- (loop.example/g01021/impl.Airway).ways -/
def impl_Airway_ways (F : Nat) (x0 : El Tsiiiiii) (x1 : El (.int .i64)) : Option (Outs [((.int .i64), .no), ((.int .i64), .no)]) :=
  cond (decide (x1 < (0 : Int))) (some (x0.2.2.1, x0.2.1, ())) (some (x0.2.1, x0.2.2.1, ()))
/-- loop.example/g01021/impl.divUp -/
def impl_divUp (F : Nat) (x0 : El (.int .i64)) (x1 : El (.int .i64)) : Option (Outs [((.int .i64), .no)]) :=
  guardB (!(x1 == 0)) (some (IntKind.i64.wrap ((IntKind.i64.wrap ((IntKind.i64.wrap (x0 + x1)) - (1 : Int))).tdiv x1), ()))
/-- loop.example/g01021/impl.shareOf -/
def impl_shareOf (F : Nat) (x0 : El (.int .i64)) (x1 : El (.int .i64)) : Option (Outs [((.int .i64), .no)]) :=
  obind (impl_divUp F (IntKind.i64.wrap ((100 : Int) * x0)) x1) fun r1 => some (min r1.1 (1000000 : Int), ())
abbrev impl_Mine_endShares_l0s : List Sh := [.dead, .val (.sl (.int .i64)) .no, .val (.sl Tsii) .no, .val (.sl (.int .i64)) .no, .dead, .dead, .dead, .dead, .dead, .val (.sl (.int .i64)) (.own none .no), .dead, .dead, .dead, .dead, .dead, .dead, .val (.sl Tsiiiiii) .no, .val (.int .i64) .no, .val (.int .i64) .no, .dead, .dead, .dead, .dead, .dead, .dead, .dead, .dead, .dead, .dead, .dead, .dead, .dead, .dead, .dead, .dead, .dead, .dead, .dead, .dead, .dead, .dead, .dead, .dead, .dead, .dead, .dead, .dead, .dead, .dead, .dead, .dead, .dead, .dead, .dead, .dead, .dead, .dead, .dead, .dead, .dead, .dead, .dead, .dead, .dead, .dead, .dead, .dead, .dead]
abbrev impl_Mine_endShares_l0o : List (Ex × List Sh) := [(.exit 0, [.dead, .dead, .dead, .dead, .dead, .dead, .dead, .dead, .dead, .val (.sl (.int .i64)) (.own none .no), .dead, .dead, .dead, .dead, .dead, .dead, .dead, .dead, .dead, .dead, .dead, .dead, .dead, .dead, .dead, .dead, .dead, .dead, .dead, .dead, .dead, .dead, .dead, .dead, .dead, .dead, .dead, .dead, .dead, .dead, .dead, .dead, .dead, .dead, .dead, .dead, .dead, .dead, .dead, .dead, .dead, .dead, .dead, .dead, .dead, .dead, .dead, .dead, .dead, .dead, .dead, .dead, .dead, .dead, .dead, .dead, .dead, .dead])]
def impl_Mine_endShares_l0_step {β : Type} (F : Nat) (k0 : El (.sl (.int .i64)) × Unit → Option β) (rec : El (.sl (.int .i64)) × El (.sl Tsii) × El (.sl (.int .i64)) × El (.sl (.int .i64)) × El (.sl Tsiiiiii) × El (.int .i64) × El (.int .i64) × Unit → Option β) (x : El (.sl (.int .i64)) × El (.sl Tsii) × El (.sl (.int .i64)) × El (.sl (.int .i64)) × El (.sl Tsiiiiii) × El (.int .i64) × El (.int .i64) × Unit) : Option β :=
  cond (decide (x.2.2.2.2.2.2.1 < x.2.2.2.2.2.1)) (obind (rdAt x.2.2.2.2.1 x.2.2.2.2.2.2.1) fun v1 => obind (impl_gasOf F x.2.1 x.2.2.2.2.2.2.1) fun r2 => obind (rdAt x.1 x.2.2.2.2.2.2.1) fun v3 => obind (impl_Airway_ways F v1 v3) fun r4 => obind (rdAt x.1 x.2.2.2.2.2.2.1) fun v5 => cond (v5 != (0 : Int)) (obind (rdAt x.2.2.1 r4.1) fun v6 => obind (rdAt x.1 x.2.2.2.2.2.2.1) fun v7 => obind (impl_abs F v7) fun r8 => obind (impl_shareOf F r2.1 r8.1) fun r9 => guardB (decide ((x.2.2.2.1.length + ([min (IntKind.i64.wrap (v6 + r9.1)) (1000000 : Int)]).length) * 8 ≤ 140737488355328)) (rec (x.1, x.2.1, x.2.2.1, x.2.2.2.1 ++ ([min (IntKind.i64.wrap (v6 + r9.1)) (1000000 : Int)]), x.2.2.2.2.1, x.2.2.2.2.2.1, IntKind.i64.wrap (x.2.2.2.2.2.2.1 + (1 : Int)), ()))) (cond (decide (r2.1 > (0 : Int))) (guardB (decide ((x.2.2.2.1.length + ([(1000000 : Int)]).length) * 8 ≤ 140737488355328)) (rec (x.1, x.2.1, x.2.2.1, x.2.2.2.1 ++ ([(1000000 : Int)]), x.2.2.2.2.1, x.2.2.2.2.2.1, IntKind.i64.wrap (x.2.2.2.2.2.2.1 + (1 : Int)), ()))) (guardB (decide ((x.2.2.2.1.length + ([(0 : Int)]).length) * 8 ≤ 140737488355328)) (rec (x.1, x.2.1, x.2.2.1, x.2.2.2.1 ++ ([(0 : Int)]), x.2.2.2.2.1, x.2.2.2.2.2.1, IntKind.i64.wrap (x.2.2.2.2.2.2.1 + (1 : Int)), ()))))) (k0 (x.2.2.2.1, ()))
def impl_Mine_endShares_l0 (F : Nat) : LoopFn where
  n := 68
  sh := impl_Mine_endShares_l0s
  outs := impl_Mine_endShares_l0o
  es := [.exit 0]
  step := fun rec K x => impl_Mine_endShares_l0_step F K.1 rec x
/-- (loop.example/g01021/impl.Mine).endShares -/
def impl_Mine_endShares (F : Nat) (x0 : El TiSqsiiiiiip) (x1 : El (.sl (.int .i64))) (x2 : El (.sl Tsii)) (x3 : El (.sl (.int .i64))) : Option (Outs [((.sl (.int .i64)), (.own none .no))]) :=
  runP (impl_Mine_endShares_l0_step F (fun y10 => some (y10.1, ()))) none F (x1, x2, x3, [], x0.2.1, (x0.2.1.length : Int), (0 : Int), ())
abbrev impl_mixShares_l0s : List Sh := [.dead, .val (.sl (.int .i64)) .no, .dead, .dead, .dead, .val (.int .i64) .no, .val (.int .i64) .no, .dead, .dead, .val (.sl (.int .i64)) .no, .val (.int .i64) .no, .val (.int .i64) .no, .dead, .dead, .dead, .dead, .dead, .dead, .dead, .dead, .dead, .dead, .dead, .dead, .dead, .dead, .dead, .dead, .dead, .dead, .dead, .dead, .dead]
abbrev impl_mixShares_l0o : List (Ex × List Sh) := [(.exit 0, [.dead, .dead, .dead, .dead, .dead, .val (.int .i64) .no, .val (.int .i64) .no, .dead, .dead, .dead, .dead, .dead, .dead, .dead, .dead, .dead, .dead, .dead, .dead, .dead, .dead, .dead, .dead, .dead, .dead, .dead, .dead, .dead, .dead, .dead, .dead, .dead, .dead])]
def impl_mixShares_l0_step {β : Type} (F : Nat) (k0 : El (.int .i64) × El (.int .i64) × Unit → Option β) (rec : El (.sl (.int .i64)) × El (.int .i64) × El (.int .i64) × El (.sl (.int .i64)) × El (.int .i64) × El (.int .i64) × Unit → Option β) (x : El (.sl (.int .i64)) × El (.int .i64) × El (.int .i64) × El (.sl (.int .i64)) × El (.int .i64) × El (.int .i64) × Unit) : Option β :=
  cond (decide (x.2.2.2.2.2.1 < x.2.2.2.2.1)) (obind (rdAt x.2.2.2.1 x.2.2.2.2.2.1) fun v1 => obind (rdAt x.1 x.2.2.2.2.2.1) fun v2 => rec (x.1, IntKind.i64.wrap (x.2.1 + (IntKind.i64.wrap (v1 * v2))), IntKind.i64.wrap (x.2.2.1 + v1), x.2.2.2.1, x.2.2.2.2.1, IntKind.i64.wrap (x.2.2.2.2.2.1 + (1 : Int)), ())) (k0 (x.2.1, x.2.2.1, ()))
def impl_mixShares_l0 (F : Nat) : LoopFn where
  n := 33
  sh := impl_mixShares_l0s
  outs := impl_mixShares_l0o
  es := [.exit 0]
  step := fun rec K x => impl_mixShares_l0_step F K.1 rec x
/-- loop.example/g01021/impl.mixShares -/
def impl_mixShares (F : Nat) (x0 : El (.sl (.int .i64))) (x1 : El (.sl (.int .i64))) : Option (Outs [((.int .i64), .no)]) :=
  runP (impl_mixShares_l0_step F (fun y3 => cond (y3.2.1 == (0 : Int)) (some ((0 : Int), ())) (obind (impl_divUp F y3.1 y3.2.1) fun r4 => some (r4.1, ())))) none F (x1, (0 : Int), (0 : Int), x0, (x0.length : Int), (0 : Int), ())
abbrev impl_Mine_junctionShares_l2s : List Sh := [.dead, .val (.sl (.int .i64)) .no, .val (.sl Tsii) .no, .box none TiSqsiiiiiip (.pr .no (.pr .no .no)), .dead, .dead, .dead, .dead, .val (.sl (.int .i64)) (.own none .no), .val (.sl (.int .i64)) (.own none .no), .val (.int .i64) .no, .val (.sl (.int .i64)) (.own none .no), .val (.sl (.int .i64)) (.own none .no), .dead, .dead, .dead, .dead, .dead, .dead, .dead, .dead, .val (.int .i64) .no, .val (.int .i64) .no, .dead, .dead, .dead, .dead, .dead, .dead, .dead, .dead, .dead, .dead, .val (.int .i64) .no, .val (.int .i64) .no, .dead, .dead, .dead, .val (.sl Tsiiiiii) .no, .val (.int .i64) .no, .val (.int .i64) .no, .dead, .dead, .dead, .dead, .dead, .dead, .dead, .dead, .dead, .dead, .dead, .dead, .dead, .dead, .dead, .dead, .dead, .dead, .dead, .dead, .dead, .dead, .dead, .dead, .dead, .dead, .dead, .dead, .dead, .dead, .dead, .dead, .dead, .dead, .dead, .dead, .dead, .dead, .dead, .dead, .dead, .dead, .dead, .dead, .dead, .dead, .dead, .dead, .dead]
abbrev impl_Mine_junctionShares_l2o : List (Ex × List Sh) := [(.exit 4, [.dead, .val (.sl (.int .i64)) .no, .val (.sl Tsii) .no, .box none TiSqsiiiiiip (.pr .no (.pr .no .no)), .dead, .dead, .dead, .dead, .val (.sl (.int .i64)) (.own none .no), .val (.sl (.int .i64)) (.own none .no), .val (.int .i64) .no, .val (.sl (.int .i64)) (.own none .no), .val (.sl (.int .i64)) (.own none .no), .dead, .dead, .dead, .dead, .dead, .dead, .dead, .dead, .val (.int .i64) .no, .val (.int .i64) .no, .dead, .dead, .dead, .dead, .dead, .dead, .dead, .dead, .dead, .dead, .val (.int .i64) .no, .val (.int .i64) .no, .dead, .dead, .dead, .dead, .dead, .dead, .dead, .dead, .dead, .dead, .dead, .dead, .dead, .dead, .dead, .dead, .dead, .dead, .dead, .dead, .dead, .dead, .dead, .dead, .dead, .dead, .dead, .dead, .dead, .dead, .dead, .dead, .dead, .dead, .dead, .dead, .dead, .dead, .dead, .dead, .dead, .dead, .dead, .dead, .dead, .dead, .dead, .dead, .dead, .dead, .dead, .dead, .dead, .dead, .dead])]
def impl_Mine_junctionShares_l2_step {β : Type} (F : Nat) (k0 : El (.sl (.int .i64)) × El (.sl Tsii) × El TiSqsiiiiiip × El (.sl (.int .i64)) × El (.sl (.int .i64)) × El (.int .i64) × El (.sl (.int .i64)) × El (.sl (.int .i64)) × El (.int .i64) × El (.int .i64) × El (.int .i64) × El (.int .i64) × Unit → Option β) (rec : El (.sl (.int .i64)) × El (.sl Tsii) × El TiSqsiiiiiip × El (.sl (.int .i64)) × El (.sl (.int .i64)) × El (.int .i64) × El (.sl (.int .i64)) × El (.sl (.int .i64)) × El (.int .i64) × El (.int .i64) × El (.int .i64) × El (.int .i64) × El (.sl Tsiiiiii) × El (.int .i64) × El (.int .i64) × Unit → Option β) (x : El (.sl (.int .i64)) × El (.sl Tsii) × El TiSqsiiiiiip × El (.sl (.int .i64)) × El (.sl (.int .i64)) × El (.int .i64) × El (.sl (.int .i64)) × El (.sl (.int .i64)) × El (.int .i64) × El (.int .i64) × El (.int .i64) × El (.int .i64) × El (.sl Tsiiiiii) × El (.int .i64) × El (.int .i64) × Unit) : Option β :=
  cond (decide (x.2.2.2.2.2.2.2.2.2.2.2.2.2.2.1 < x.2.2.2.2.2.2.2.2.2.2.2.2.2.1)) (obind (rdAt x.2.2.2.2.2.2.2.2.2.2.2.2.1 x.2.2.2.2.2.2.2.2.2.2.2.2.2.2.1) fun v2 => obind (rdAt x.1 x.2.2.2.2.2.2.2.2.2.2.2.2.2.2.1) fun v3 => obind (impl_Airway_ways F v2 v3) fun r4 => obind (rdAt x.1 x.2.2.2.2.2.2.2.2.2.2.2.2.2.2.1) fun v5 => cond (v5 != (0 : Int)) (cond (r4.2.1 == x.2.2.2.2.2.1) (obind (rdAt x.1 x.2.2.2.2.2.2.2.2.2.2.2.2.2.2.1) fun v6 => obind (impl_abs F v6) fun r7 => guardB (decide ((x.2.2.2.2.2.2.1.length + ([r7.1]).length) * 8 ≤ 140737488355328)) (obind (rdAt x.2.2.2.1 x.2.2.2.2.2.2.2.2.2.2.2.2.2.2.1) fun v8 => guardB (decide ((x.2.2.2.2.2.2.2.1.length + ([v8]).length) * 8 ≤ 140737488355328)) (rec (x.1, x.2.1, x.2.2.1, x.2.2.2.1, x.2.2.2.2.1, x.2.2.2.2.2.1, x.2.2.2.2.2.2.1 ++ ([r7.1]), x.2.2.2.2.2.2.2.1 ++ ([v8]), x.2.2.2.2.2.2.2.2.1, x.2.2.2.2.2.2.2.2.2.1, x.2.2.2.2.2.2.2.2.2.2.1, x.2.2.2.2.2.2.2.2.2.2.2.1, x.2.2.2.2.2.2.2.2.2.2.2.2.1, x.2.2.2.2.2.2.2.2.2.2.2.2.2.1, IntKind.i64.wrap (x.2.2.2.2.2.2.2.2.2.2.2.2.2.2.1 + (1 : Int)), ())))) (rec (x.1, x.2.1, x.2.2.1, x.2.2.2.1, x.2.2.2.2.1, x.2.2.2.2.2.1, x.2.2.2.2.2.2.1, x.2.2.2.2.2.2.2.1, x.2.2.2.2.2.2.2.2.1, x.2.2.2.2.2.2.2.2.2.1, x.2.2.2.2.2.2.2.2.2.2.1, x.2.2.2.2.2.2.2.2.2.2.2.1, x.2.2.2.2.2.2.2.2.2.2.2.2.1, x.2.2.2.2.2.2.2.2.2.2.2.2.2.1, IntKind.i64.wrap (x.2.2.2.2.2.2.2.2.2.2.2.2.2.2.1 + (1 : Int)), ()))) (rec (x.1, x.2.1, x.2.2.1, x.2.2.2.1, x.2.2.2.2.1, x.2.2.2.2.2.1, x.2.2.2.2.2.2.1, x.2.2.2.2.2.2.2.1, x.2.2.2.2.2.2.2.2.1, x.2.2.2.2.2.2.2.2.2.1, x.2.2.2.2.2.2.2.2.2.2.1, x.2.2.2.2.2.2.2.2.2.2.2.1, x.2.2.2.2.2.2.2.2.2.2.2.2.1, x.2.2.2.2.2.2.2.2.2.2.2.2.2.1, IntKind.i64.wrap (x.2.2.2.2.2.2.2.2.2.2.2.2.2.2.1 + (1 : Int)), ()))) (k0 (x.1, x.2.1, x.2.2.1, x.2.2.2.1, x.2.2.2.2.1, x.2.2.2.2.2.1, x.2.2.2.2.2.2.1, x.2.2.2.2.2.2.2.1, x.2.2.2.2.2.2.2.2.1, x.2.2.2.2.2.2.2.2.2.1, x.2.2.2.2.2.2.2.2.2.2.1, x.2.2.2.2.2.2.2.2.2.2.2.1, ()))
def impl_Mine_junctionShares_l2 (F : Nat) : LoopFn where
  n := 90
  sh := impl_Mine_junctionShares_l2s
  outs := impl_Mine_junctionShares_l2o
  es := [.exit 4]
  step := fun rec K x => impl_Mine_junctionShares_l2_step F K.1 rec x
abbrev impl_Mine_junctionShares_l1s : List Sh := [.dead, .val (.sl (.int .i64)) .no, .val (.sl Tsii) .no, .box none TiSqsiiiiiip (.pr .no (.pr .no .no)), .dead, .dead, .dead, .dead, .val (.sl (.int .i64)) (.own none .no), .val (.sl (.int .i64)) (.own none .no), .dead, .dead, .dead, .dead, .dead, .dead, .dead, .dead, .dead, .dead, .dead, .val (.int .i64) .no, .val (.int .i64) .no, .dead, .dead, .dead, .dead, .dead, .dead, .dead, .dead, .dead, .dead, .val (.int .i64) .no, .val (.int .i64) .no, .dead, .dead, .dead, .dead, .dead, .dead, .dead, .dead, .dead, .dead, .dead, .dead, .dead, .dead, .dead, .dead, .dead, .dead, .dead, .dead, .dead, .dead, .dead, .dead, .dead, .dead, .dead, .dead, .dead, .dead, .dead, .dead, .dead, .dead, .dead, .dead, .dead, .dead, .dead, .dead, .dead, .dead, .dead, .dead, .dead, .dead, .dead, .dead, .dead, .dead, .dead, .dead, .dead, .dead, .dead]
abbrev impl_Mine_junctionShares_l1o : List (Ex × List Sh) := [(.exit 2, [.dead, .val (.sl (.int .i64)) .no, .val (.sl Tsii) .no, .box none TiSqsiiiiiip (.pr .no (.pr .no .no)), .dead, .dead, .dead, .dead, .dead, .val (.sl (.int .i64)) (.own none .no), .dead, .dead, .dead, .dead, .dead, .dead, .dead, .dead, .dead, .dead, .dead, .val (.int .i64) .no, .val (.int .i64) .no, .dead, .dead, .dead, .dead, .dead, .dead, .dead, .dead, .dead, .dead, .dead, .dead, .dead, .dead, .dead, .dead, .dead, .dead, .dead, .dead, .dead, .dead, .dead, .dead, .dead, .dead, .dead, .dead, .dead, .dead, .dead, .dead, .dead, .dead, .dead, .dead, .dead, .dead, .dead, .dead, .dead, .dead, .dead, .dead, .dead, .dead, .dead, .dead, .dead, .dead, .dead, .dead, .dead, .dead, .dead, .dead, .dead, .dead, .dead, .dead, .dead, .dead, .dead, .dead, .dead, .dead, .dead])]
def impl_Mine_junctionShares_l1_step {β : Type} (F : Nat) (k0 : El (.sl (.int .i64)) × El (.sl Tsii) × El TiSqsiiiiiip × El (.sl (.int .i64)) × El (.int .i64) × El (.int .i64) × Unit → Option β) (rec : El (.sl (.int .i64)) × El (.sl Tsii) × El TiSqsiiiiiip × El (.sl (.int .i64)) × El (.sl (.int .i64)) × El (.int .i64) × El (.int .i64) × El (.int .i64) × El (.int .i64) × Unit → Option β) (x : El (.sl (.int .i64)) × El (.sl Tsii) × El TiSqsiiiiiip × El (.sl (.int .i64)) × El (.sl (.int .i64)) × El (.int .i64) × El (.int .i64) × El (.int .i64) × El (.int .i64) × Unit) : Option β :=
  cond (decide (x.2.2.2.2.2.2.2.2.1 < x.2.2.2.2.2.2.2.1)) (runP (impl_Mine_junctionShares_l2_step F (fun y9 => obind (impl_mixShares F y9.2.2.2.2.2.2.1 y9.2.2.2.2.2.2.2.1) fun r10 => obind (rdAt y9.2.2.2.2.1 y9.2.2.2.2.2.1) fun v11 => rec (y9.1, y9.2.1, y9.2.2.1, y9.2.2.2.1, y9.2.2.2.2.1.set y9.2.2.2.2.2.1.toNat r10.1, y9.2.2.2.2.2.2.2.2.1, y9.2.2.2.2.2.2.2.2.2.1, y9.2.2.2.2.2.2.2.2.2.2.1, IntKind.i64.wrap (y9.2.2.2.2.2.2.2.2.2.2.2.1 + (1 : Int)), ()))) none F (x.1, x.2.1, x.2.2.1, x.2.2.2.1, x.2.2.2.2.1, x.2.2.2.2.2.2.2.2.1, [], [], x.2.2.2.2.2.1, x.2.2.2.2.2.2.1, x.2.2.2.2.2.2.2.1, x.2.2.2.2.2.2.2.2.1, x.2.2.1.2.1, (x.2.2.1.2.1.length : Int), (0 : Int), ())) (k0 (x.1, x.2.1, x.2.2.1, x.2.2.2.2.1, x.2.2.2.2.2.1, x.2.2.2.2.2.2.1, ()))
def impl_Mine_junctionShares_l1 (F : Nat) : LoopFn where
  n := 90
  sh := impl_Mine_junctionShares_l1s
  outs := impl_Mine_junctionShares_l1o
  es := [.exit 2]
  step := fun rec K x => impl_Mine_junctionShares_l1_step F K.1 rec x
abbrev impl_Mine_junctionShares_l0s : List Sh := [.dead, .val (.sl (.int .i64)) .no, .val (.sl Tsii) .no, .box none TiSqsiiiiiip (.pr .no (.pr .no .no)), .dead, .dead, .dead, .val (.sl (.int .i64)) (.own none .no), .dead, .dead, .dead, .dead, .dead, .dead, .dead, .dead, .dead, .dead, .dead, .dead, .dead, .val (.int .i64) .no, .val (.int .i64) .no, .dead, .dead, .dead, .dead, .dead, .dead, .dead, .dead, .dead, .dead, .dead, .dead, .dead, .dead, .dead, .dead, .dead, .dead, .dead, .dead, .dead, .dead, .dead, .dead, .dead, .dead, .dead, .dead, .dead, .dead, .dead, .dead, .dead, .dead, .dead, .dead, .dead, .dead, .dead, .dead, .dead, .dead, .dead, .dead, .dead, .dead, .dead, .dead, .dead, .dead, .dead, .dead, .dead, .dead, .dead, .dead, .dead, .dead, .dead, .dead, .dead, .dead, .dead, .dead, .dead, .dead, .dead]
abbrev impl_Mine_junctionShares_l0o : List (Ex × List Sh) := [(.exit 0, [.dead, .dead, .dead, .dead, .dead, .dead, .dead, .val (.sl (.int .i64)) (.own none .no), .dead, .dead, .dead, .dead, .dead, .dead, .dead, .dead, .dead, .dead, .dead, .dead, .dead, .dead, .dead, .dead, .dead, .dead, .dead, .dead, .dead, .dead, .dead, .dead, .dead, .dead, .dead, .dead, .dead, .dead, .dead, .dead, .dead, .dead, .dead, .dead, .dead, .dead, .dead, .dead, .dead, .dead, .dead, .dead, .dead, .dead, .dead, .dead, .dead, .dead, .dead, .dead, .dead, .dead, .dead, .dead, .dead, .dead, .dead, .dead, .dead, .dead, .dead, .dead, .dead, .dead, .dead, .dead, .dead, .dead, .dead, .dead, .dead, .dead, .dead, .dead, .dead, .dead, .dead, .dead, .dead, .dead])]
def impl_Mine_junctionShares_l0_step {β : Type} (F : Nat) (k0 : El (.sl (.int .i64)) × Unit → Option β) (rec : El (.sl (.int .i64)) × El (.sl Tsii) × El TiSqsiiiiiip × El (.sl (.int .i64)) × El (.int .i64) × El (.int .i64) × Unit → Option β) (x : El (.sl (.int .i64)) × El (.sl Tsii) × El TiSqsiiiiiip × El (.sl (.int .i64)) × El (.int .i64) × El (.int .i64) × Unit) : Option β :=
  cond (decide (x.2.2.2.2.2.1 < x.2.2.2.2.1)) (obind (impl_Mine_endShares F x.2.2.1 x.1 x.2.1 x.2.2.2.1) fun r1 => guardB (decide ((0 : Int) ≤ x.2.2.1.1)) (guardB (decide (x.2.2.1.1 ≤ x.2.2.1.1)) (guardB (decide (x.2.2.1.1 * (8 : Int) ≤ 281474976710656)) (guardB (decide (x.2.2.1.1 ≤ 9223372036854775807)) (runP (impl_Mine_junctionShares_l1_step F (fun y12 => rec (y12.1, y12.2.1, y12.2.2.1, y12.2.2.2.1, y12.2.2.2.2.1, IntKind.i64.wrap (y12.2.2.2.2.2.1 + (1 : Int)), ()))) none F (x.1, x.2.1, x.2.2.1, r1.1, List.replicate x.2.2.1.1.toNat (0 : Int), x.2.2.2.2.1, x.2.2.2.2.2.1, ((List.replicate x.2.2.1.1.toNat (0 : Int)).length : Int), (0 : Int), ())))))) (k0 (x.2.2.2.1, ()))
def impl_Mine_junctionShares_l0 (F : Nat) : LoopFn where
  n := 90
  sh := impl_Mine_junctionShares_l0s
  outs := impl_Mine_junctionShares_l0o
  es := [.exit 0]
  step := fun rec K x => impl_Mine_junctionShares_l0_step F K.1 rec x
/-- (loop.example/g01021/impl.Mine).junctionShares -/
def impl_Mine_junctionShares (F : Nat) (x0 : El TiSqsiiiiiip) (x1 : El (.sl (.int .i64))) (x2 : El (.sl Tsii)) : Option (Outs [((.sl (.int .i64)), (.own none .no))]) :=
  guardB (decide ((0 : Int) ≤ x0.1)) (guardB (decide (x0.1 ≤ x0.1)) (guardB (decide (x0.1 * (8 : Int) ≤ 281474976710656)) (guardB (decide (x0.1 ≤ 9223372036854775807)) (runP (impl_Mine_junctionShares_l0_step F (fun y13 => some (y13.1, ()))) none F (x1, x2, x0, List.replicate x0.1.toNat (0 : Int), x0.1, (0 : Int), ())))))
/-- loop.example/g01021/impl.Decimal -/
def impl_Decimal (F : Nat) (x0 : El (.int .i64)) : Option (Outs [(.str, .no)]) :=
  obind (libFormatInt x0 (10 : Int)) fun r1 => some (r1.1, ())
/-- (loop.example/g01021/impl.Job).need -/
def impl_Job_need (F : Nat) (x0 : El Tsiii) : Option (Outs [((.int .i64), .no)]) :=
  some (IntKind.i64.wrap ((IntKind.i64.wrap ((10 : Int) * x0.2.2.1)) + (IntKind.i64.wrap ((6 : Int) * x0.2.2.2.1))), ())
abbrev impl_Mine_airNeeds_l0s : List Sh := [.dead, .dead, .dead, .dead, .dead, .val (.sl (.int .i64)) (.own none .no), .dead, .dead, .dead, .dead, .dead, .dead, .val (.sl Tsiii) .no, .val (.int .i64) .no, .val (.int .i64) .no, .dead, .dead, .dead, .dead, .dead, .dead, .dead, .dead, .dead, .dead, .dead, .dead, .dead, .dead]
abbrev impl_Mine_airNeeds_l0o : List (Ex × List Sh) := [(.exit 0, [.dead, .dead, .dead, .dead, .dead, .val (.sl (.int .i64)) (.own none .no), .dead, .dead, .dead, .dead, .dead, .dead, .dead, .dead, .dead, .dead, .dead, .dead, .dead, .dead, .dead, .dead, .dead, .dead, .dead, .dead, .dead, .dead, .dead])]
def impl_Mine_airNeeds_l0_step {β : Type} (F : Nat) (k0 : El (.sl (.int .i64)) × Unit → Option β) (rec : El (.sl (.int .i64)) × El (.sl Tsiii) × El (.int .i64) × El (.int .i64) × Unit → Option β) (x : El (.sl (.int .i64)) × El (.sl Tsiii) × El (.int .i64) × El (.int .i64) × Unit) : Option β :=
  cond (decide (x.2.2.2.1 < x.2.2.1)) (obind (rdAt x.2.1 x.2.2.2.1) fun v1 => obind (rdAt x.1 v1.2.1) fun v2 => obind (impl_Job_need F v1) fun r3 => obind (rdAt x.1 v1.2.1) fun v4 => rec (x.1.set v1.2.1.toNat (IntKind.i64.wrap (v2 + r3.1)), x.2.1, x.2.2.1, IntKind.i64.wrap (x.2.2.2.1 + (1 : Int)), ())) (k0 (x.1, ()))
def impl_Mine_airNeeds_l0 (F : Nat) : LoopFn where
  n := 29
  sh := impl_Mine_airNeeds_l0s
  outs := impl_Mine_airNeeds_l0o
  es := [.exit 0]
  step := fun rec K x => impl_Mine_airNeeds_l0_step F K.1 rec x
/-- (loop.example/g01021/impl.Mine).airNeeds -/
def impl_Mine_airNeeds (F : Nat) (x0 : El TiSqsiiiiiip) (x1 : El (.sl Tsiii)) : Option (Outs [((.sl (.int .i64)), (.own none .no))]) :=
  guardB (decide ((0 : Int) ≤ (x0.2.1.length : Int))) (guardB (decide ((x0.2.1.length : Int) ≤ (x0.2.1.length : Int))) (guardB (decide ((x0.2.1.length : Int) * (8 : Int) ≤ 281474976710656)) (guardB (decide ((x0.2.1.length : Int) ≤ 9223372036854775807)) (runP (impl_Mine_airNeeds_l0_step F (fun y5 => some (y5.1, ()))) none F (List.replicate (x0.2.1.length : Int).toNat (0 : Int), x1, (x1.length : Int), (0 : Int), ())))))
/-- (loop.example/g01021/impl.Want).miss -/
def impl_Want_miss (F : Nat) (x0 : El Tiii) (x1 : El (.sl (.int .i64))) : Option (Outs [((.int .i64), .no)]) :=
  obind (rdAt x1 x0.1) fun v1 => some (max (max (IntKind.i64.wrap (x0.2.1 - v1)) (IntKind.i64.wrap (v1 - x0.2.2.1))) (0 : Int), ())
abbrev impl_loadProblems_l2s : List Sh := [.dead, .box none Tc66acf8c (.pr (.pr (.pr .no (.pr .no .no)) (.pr .no (.pr .no (.pr .no (.pr .no .no))))) (.pr .no (.pr .no (.pr .no (.pr .no (.pr .no (.pr .no (.pr .no (.pr .no .no))))))))), .dead, .val (.sl Tiss) (.own none .no), .box none TiSqsiiiiiip (.pr .no (.pr .no .no)), .dead, .dead, .dead, .dead, .dead, .dead, .dead, .dead, .dead, .dead, .dead, .dead, .dead, .dead, .dead, .dead, .dead, .dead, .dead, .dead, .dead, .dead, .dead, .dead, .dead, .dead, .dead, .dead, .dead, .dead, .dead, .dead, .dead, .dead, .dead, .dead, .dead, .dead, .dead, .dead, .dead, .dead, .dead, .dead, .dead, .dead, .dead, .dead, .dead, .dead, .dead, .dead, .dead, .dead, .dead, .dead, .dead, .dead, .dead, .dead, .dead, .dead, .dead, .dead, .dead, .dead, .dead, .dead, .dead, .dead, .dead, .dead, .dead, .dead, .dead, .dead, .dead, .dead, .dead, .dead, .val (.sl Tiii) .no, .val (.int .i64) .no, .val (.int .i64) .no, .dead, .dead, .dead, .dead, .dead, .dead, .dead, .dead, .dead, .dead, .dead, .dead, .dead, .dead, .dead, .dead, .dead, .dead, .dead, .dead, .dead, .dead, .dead, .dead]
abbrev impl_loadProblems_l2o : List (Ex × List Sh) := [(.exit 4, [.dead, .dead, .dead, .val (.sl Tiss) (.own none .no), .dead, .dead, .dead, .dead, .dead, .dead, .dead, .dead, .dead, .dead, .dead, .dead, .dead, .dead, .dead, .dead, .dead, .dead, .dead, .dead, .dead, .dead, .dead, .dead, .dead, .dead, .dead, .dead, .dead, .dead, .dead, .dead, .dead, .dead, .dead, .dead, .dead, .dead, .dead, .dead, .dead, .dead, .dead, .dead, .dead, .dead, .dead, .dead, .dead, .dead, .dead, .dead, .dead, .dead, .dead, .dead, .dead, .dead, .dead, .dead, .dead, .dead, .dead, .dead, .dead, .dead, .dead, .dead, .dead, .dead, .dead, .dead, .dead, .dead, .dead, .dead, .dead, .dead, .dead, .dead, .dead, .dead, .dead, .dead, .dead, .dead, .dead, .dead, .dead, .dead, .dead, .dead, .dead, .dead, .dead, .dead, .dead, .dead, .dead, .dead, .dead, .dead, .dead, .dead, .dead, .dead, .dead, .dead])]
def impl_loadProblems_l2_step {β : Type} (F : Nat) (k0 : El (.sl Tiss) × Unit → Option β) (rec : El Tc66acf8c × El (.sl Tiss) × El TiSqsiiiiiip × El (.sl Tiii) × El (.int .i64) × El (.int .i64) × Unit → Option β) (x : El Tc66acf8c × El (.sl Tiss) × El TiSqsiiiiiip × El (.sl Tiii) × El (.int .i64) × El (.int .i64) × Unit) : Option β :=
  cond (decide (x.2.2.2.2.2.1 < x.2.2.2.2.1)) (obind (rdAt x.2.2.2.1 x.2.2.2.2.2.1) fun v14 => obind (impl_Want_miss F v14 x.1.2.2.1) fun r15 => cond (decide (r15.1 > (0 : Int))) (obind (rdAt x.2.2.1.2.1 v14.1) fun v16 => obind (impl_Decimal F r15.1) fun r17 => guardB (decide ((x.2.1.length + ([((6 : Int), (v16.1, (r17.1, ())))]).length) * 40 ≤ 140737488355328)) (rec (x.1, x.2.1 ++ ([((6 : Int), (v16.1, (r17.1, ())))]), x.2.2.1, x.2.2.2.1, x.2.2.2.2.1, IntKind.i64.wrap (x.2.2.2.2.2.1 + (1 : Int)), ()))) (rec (x.1, x.2.1, x.2.2.1, x.2.2.2.1, x.2.2.2.2.1, IntKind.i64.wrap (x.2.2.2.2.2.1 + (1 : Int)), ()))) (k0 (x.2.1, ()))
def impl_loadProblems_l2 (F : Nat) : LoopFn where
  n := 112
  sh := impl_loadProblems_l2s
  outs := impl_loadProblems_l2o
  es := [.exit 4]
  step := fun rec K x => impl_loadProblems_l2_step F K.1 rec x
abbrev impl_loadProblems_l1s : List Sh := [.dead, .box none Tc66acf8c (.pr (.pr (.pr .no (.pr .no .no)) (.pr .no (.pr .no (.pr .no (.pr .no .no))))) (.pr .no (.pr .no (.pr .no (.pr .no (.pr .no (.pr .no (.pr .no (.pr .no .no))))))))), .dead, .val (.sl Tiss) (.own none .no), .box none TiSqsiiiiiip (.pr .no (.pr .no .no)), .dead, .dead, .dead, .dead, .dead, .dead, .dead, .dead, .dead, .dead, .dead, .dead, .dead, .dead, .dead, .dead, .dead, .dead, .dead, .dead, .dead, .dead, .dead, .dead, .dead, .dead, .dead, .dead, .dead, .dead, .dead, .dead, .dead, .dead, .dead, .dead, .dead, .dead, .dead, .dead, .dead, .dead, .dead, .dead, .dead, .dead, .dead, .dead, .dead, .val (.sl (.int .i64)) (.own none .no), .val (.int .i64) .no, .val (.int .i64) .no, .dead, .dead, .dead, .dead, .dead, .dead, .dead, .dead, .dead, .dead, .dead, .dead, .dead, .dead, .dead, .dead, .dead, .dead, .dead, .dead, .dead, .dead, .dead, .dead, .dead, .dead, .dead, .dead, .dead, .dead, .dead, .dead, .dead, .dead, .dead, .dead, .dead, .dead, .dead, .dead, .dead, .dead, .dead, .dead, .dead, .dead, .dead, .dead, .dead, .dead, .dead, .dead, .dead, .dead, .dead]
abbrev impl_loadProblems_l1o : List (Ex × List Sh) := [(.exit 2, [.dead, .box none Tc66acf8c (.pr (.pr (.pr .no (.pr .no .no)) (.pr .no (.pr .no (.pr .no (.pr .no .no))))) (.pr .no (.pr .no (.pr .no (.pr .no (.pr .no (.pr .no (.pr .no (.pr .no .no))))))))), .dead, .val (.sl Tiss) (.own none .no), .box none TiSqsiiiiiip (.pr .no (.pr .no .no)), .dead, .dead, .dead, .dead, .dead, .dead, .dead, .dead, .dead, .dead, .dead, .dead, .dead, .dead, .dead, .dead, .dead, .dead, .dead, .dead, .dead, .dead, .dead, .dead, .dead, .dead, .dead, .dead, .dead, .dead, .dead, .dead, .dead, .dead, .dead, .dead, .dead, .dead, .dead, .dead, .dead, .dead, .dead, .dead, .dead, .dead, .dead, .dead, .dead, .dead, .dead, .dead, .dead, .dead, .dead, .dead, .dead, .dead, .dead, .dead, .dead, .dead, .dead, .dead, .dead, .dead, .dead, .dead, .dead, .dead, .dead, .dead, .dead, .dead, .dead, .dead, .dead, .dead, .dead, .dead, .dead, .dead, .dead, .dead, .dead, .dead, .dead, .dead, .dead, .dead, .dead, .dead, .dead, .dead, .dead, .dead, .dead, .dead, .dead, .dead, .dead, .dead, .dead, .dead, .dead, .dead, .dead])]
def impl_loadProblems_l1_step {β : Type} (F : Nat) (k0 : El Tc66acf8c × El (.sl Tiss) × El TiSqsiiiiiip × Unit → Option β) (rec : El Tc66acf8c × El (.sl Tiss) × El TiSqsiiiiiip × El (.sl (.int .i64)) × El (.int .i64) × El (.int .i64) × Unit → Option β) (x : El Tc66acf8c × El (.sl Tiss) × El TiSqsiiiiiip × El (.sl (.int .i64)) × El (.int .i64) × El (.int .i64) × Unit) : Option β :=
  cond (decide (x.2.2.2.2.2.1 < x.2.2.2.2.1)) (obind (rdAt x.2.2.2.1 x.2.2.2.2.2.1) fun v8 => obind (rdAt x.1.2.2.1 x.2.2.2.2.2.1) fun v9 => obind (impl_abs F v9) fun r10 => cond (decide ((IntKind.i64.wrap (v8 - r10.1)) > (0 : Int))) (obind (rdAt x.2.2.1.2.1 x.2.2.2.2.2.1) fun v11 => obind (impl_Decimal F (IntKind.i64.wrap (v8 - r10.1))) fun r12 => guardB (decide ((x.2.1.length + ([((5 : Int), (v11.1, (r12.1, ())))]).length) * 40 ≤ 140737488355328)) (rec (x.1, x.2.1 ++ ([((5 : Int), (v11.1, (r12.1, ())))]), x.2.2.1, x.2.2.2.1, x.2.2.2.2.1, IntKind.i64.wrap (x.2.2.2.2.2.1 + (1 : Int)), ()))) (rec (x.1, x.2.1, x.2.2.1, x.2.2.2.1, x.2.2.2.2.1, IntKind.i64.wrap (x.2.2.2.2.2.1 + (1 : Int)), ()))) (k0 (x.1, x.2.1, x.2.2.1, ()))
def impl_loadProblems_l1 (F : Nat) : LoopFn where
  n := 112
  sh := impl_loadProblems_l1s
  outs := impl_loadProblems_l1o
  es := [.exit 2]
  step := fun rec K x => impl_loadProblems_l1_step F K.1 rec x
abbrev impl_loadProblems_l0s : List Sh := [.dead, .box none Tc66acf8c (.pr (.pr (.pr .no (.pr .no .no)) (.pr .no (.pr .no (.pr .no (.pr .no .no))))) (.pr .no (.pr .no (.pr .no (.pr .no (.pr .no (.pr .no (.pr .no (.pr .no .no))))))))), .dead, .val (.sl Tiss) (.own none .no), .box none TiSqsiiiiiip (.pr .no (.pr .no .no)), .dead, .dead, .dead, .dead, .dead, .dead, .dead, .dead, .dead, .dead, .dead, .dead, .dead, .dead, .dead, .dead, .dead, .dead, .dead, .dead, .dead, .dead, .val (.sl (.int .i64)) (.own none .no), .val (.int .i64) .no, .val (.int .i64) .no, .dead, .dead, .dead, .dead, .dead, .dead, .dead, .dead, .dead, .dead, .dead, .dead, .dead, .dead, .dead, .dead, .dead, .dead, .dead, .dead, .dead, .dead, .dead, .dead, .dead, .dead, .dead, .dead, .dead, .dead, .dead, .dead, .dead, .dead, .dead, .dead, .dead, .dead, .dead, .dead, .dead, .dead, .dead, .dead, .dead, .dead, .dead, .dead, .dead, .dead, .dead, .dead, .dead, .dead, .dead, .dead, .dead, .dead, .dead, .dead, .dead, .dead, .dead, .dead, .dead, .dead, .dead, .dead, .dead, .dead, .dead, .dead, .dead, .dead, .dead, .dead, .dead, .dead, .dead, .dead, .dead, .dead]
abbrev impl_loadProblems_l0o : List (Ex × List Sh) := [(.exit 0, [.dead, .box none Tc66acf8c (.pr (.pr (.pr .no (.pr .no .no)) (.pr .no (.pr .no (.pr .no (.pr .no .no))))) (.pr .no (.pr .no (.pr .no (.pr .no (.pr .no (.pr .no (.pr .no (.pr .no .no))))))))), .dead, .val (.sl Tiss) (.own none .no), .box none TiSqsiiiiiip (.pr .no (.pr .no .no)), .dead, .dead, .dead, .dead, .dead, .dead, .dead, .dead, .dead, .dead, .dead, .dead, .dead, .dead, .dead, .dead, .dead, .dead, .dead, .dead, .dead, .dead, .dead, .dead, .dead, .dead, .dead, .dead, .dead, .dead, .dead, .dead, .dead, .dead, .dead, .dead, .dead, .dead, .dead, .dead, .dead, .dead, .dead, .dead, .dead, .dead, .dead, .dead, .dead, .dead, .dead, .dead, .dead, .dead, .dead, .dead, .dead, .dead, .dead, .dead, .dead, .dead, .dead, .dead, .dead, .dead, .dead, .dead, .dead, .dead, .dead, .dead, .dead, .dead, .dead, .dead, .dead, .dead, .dead, .dead, .dead, .dead, .dead, .dead, .dead, .dead, .dead, .dead, .dead, .dead, .dead, .dead, .dead, .dead, .dead, .dead, .dead, .dead, .dead, .dead, .dead, .dead, .dead, .dead, .dead, .dead, .dead])]
def impl_loadProblems_l0_step {β : Type} (F : Nat) (k0 : El Tc66acf8c × El (.sl Tiss) × El TiSqsiiiiiip × Unit → Option β) (rec : El Tc66acf8c × El (.sl Tiss) × El TiSqsiiiiiip × El (.sl (.int .i64)) × El (.int .i64) × El (.int .i64) × Unit → Option β) (x : El Tc66acf8c × El (.sl Tiss) × El TiSqsiiiiiip × El (.sl (.int .i64)) × El (.int .i64) × El (.int .i64) × Unit) : Option β :=
  cond (decide (x.2.2.2.2.2.1 < x.2.2.2.2.1)) (obind (rdAt x.2.2.2.1 x.2.2.2.2.2.1) fun v3 => cond (decide (v3 > x.1.2.2.2.2.2.1)) (obind (rdAt x.2.2.1.2.1 x.2.2.2.2.2.1) fun v4 => obind (impl_Decimal F v3) fun r5 => guardB (decide ((x.2.1.length + ([((4 : Int), (v4.1, (r5.1, ())))]).length) * 40 ≤ 140737488355328)) (rec (x.1, x.2.1 ++ ([((4 : Int), (v4.1, (r5.1, ())))]), x.2.2.1, x.2.2.2.1, x.2.2.2.2.1, IntKind.i64.wrap (x.2.2.2.2.2.1 + (1 : Int)), ()))) (rec (x.1, x.2.1, x.2.2.1, x.2.2.2.1, x.2.2.2.2.1, IntKind.i64.wrap (x.2.2.2.2.2.1 + (1 : Int)), ()))) (k0 (x.1, x.2.1, x.2.2.1, ()))
def impl_loadProblems_l0 (F : Nat) : LoopFn where
  n := 112
  sh := impl_loadProblems_l0s
  outs := impl_loadProblems_l0o
  es := [.exit 0]
  step := fun rec K x => impl_loadProblems_l0_step F K.1 rec x
/-- loop.example/g01021/impl.loadProblems -/
def impl_loadProblems (F : Nat) (x0 : El Tc66acf8c) : Option (Outs [((.sl Tiss), (.own none (.pr .no (.pr .no (.pr .no .no)))))]) :=
  obind (impl_Mine_junctionShares F x0.1.1 x0.2.2.1 x0.2.2.2.2.1) fun r1 => obind (impl_Mine_endShares F x0.1.1 x0.2.2.1 x0.2.2.2.2.1 r1.1) fun r2 => runP (impl_loadProblems_l0_step F (fun y6 => obind (impl_Mine_airNeeds F y6.2.2.1 y6.1.2.2.2.2.2.2.1) fun r7 => runP (impl_loadProblems_l1_step F (fun y13 => runP (impl_loadProblems_l2_step F (fun y18 => some (y18.1, ()))) none F (y13.1, y13.2.1, y13.2.2.1, y13.1.2.2.2.1, (y13.1.2.2.2.1.length : Int), (0 : Int), ()))) none F (y6.1, y6.2.1, y6.2.2.1, r7.1, (r7.1.length : Int), (0 : Int), ()))) none F (x0, [], x0.1.1, r2.1, (r2.1.length : Int), (0 : Int), ())
abbrev impl_planProblems_l0s : List Sh := [.dead, .dead, .box none Tc66acf8c (.pr (.pr (.pr .no (.pr .no .no)) (.pr .no (.pr .no (.pr .no (.pr .no .no))))) (.pr .no (.pr .no (.pr .no (.pr .no (.pr .no (.pr .no (.pr .no (.pr .no .no))))))))), .dead, .dead, .dead, .val (.sl Tiss) (.own none .no), .dead, .dead, .dead, .dead, .dead, .val (.sl .fnu) .no, .val (.int .i64) .no, .val (.int .i64) .no, .dead, .dead, .dead, .dead, .dead, .dead, .dead, .dead, .dead, .dead]
abbrev impl_planProblems_l0o : List (Ex × List Sh) := [(.exit 0, [.dead, .dead, .dead, .dead, .dead, .dead, .val (.sl Tiss) (.own none .no), .dead, .dead, .dead, .dead, .dead, .dead, .dead, .dead, .dead, .dead, .dead, .dead, .dead, .dead, .dead, .dead, .dead, .dead])]
def impl_planProblems_l0_step {β : Type} (F : Nat) (k0 : El (.sl Tiss) × Unit → Option β) (rec : El Tc66acf8c × El (.sl Tiss) × El (.sl .fnu) × El (.int .i64) × El (.int .i64) × Unit → Option β) (x : El Tc66acf8c × El (.sl Tiss) × El (.sl .fnu) × El (.int .i64) × El (.int .i64) × Unit) : Option β :=
  cond (decide (x.2.2.2.2.1 < x.2.2.2.1)) (obind (rdAt x.2.2.1 x.2.2.2.2.1) fun v2 => obind v2 fun g3 => cond (Nat.beq g3 42) (obind (impl_loadProblems F x.1) fun r4 => guardB (decide ((x.2.1.length + r4.1.length) * 40 ≤ 140737488355328)) (rec (x.1, x.2.1 ++ r4.1, x.2.2.1, x.2.2.2.1, IntKind.i64.wrap (x.2.2.2.2.1 + (1 : Int)), ()))) (none)) (k0 (x.2.1, ()))
def impl_planProblems_l0 (F : Nat) : LoopFn where
  n := 25
  sh := impl_planProblems_l0s
  outs := impl_planProblems_l0o
  es := [.exit 0]
  step := fun rec K x => impl_planProblems_l0_step F K.1 rec x
/-- loop.example/g01021/impl.planProblems -/
def impl_planProblems (F : Nat) (x0 : El Tc66acf8c) (x1 : El (.sl .fnu)) : Option (Outs [((.sl Tiss), (.own none (.pr .no (.pr .no (.pr .no .no))))), ((.int .i64), .no)]) :=
  obind (impl_ValidPlan F x0) fun r1 => cond (!r1.1) (some ([], (1 : Int), ())) (runP (impl_planProblems_l0_step F (fun y5 => some (y5.1, (0 : Int), ()))) none F (x0, [], x1, (x1.length : Int), (0 : Int), ()))
/-- loop.example/g01021/impl.LoadProblems -/
def impl_LoadProblems (F : Nat) (x0 : El Tc66acf8c) : Option (Outs [((.sl Tiss), (.own none (.pr .no (.pr .no (.pr .no .no))))), ((.int .i64), .no)]) :=
  obind (impl_planProblems F x0 ([(some 42)])) fun r1 => some (r1.1, r1.2.1, ())
/-- loop.example/g01021/laws.eqProblem -/
def laws_eqProblem (F : Nat) (x0 : El Tiss) (x1 : El Tiss) : Option (Outs [(.bool, .no)]) :=
  cond (x0.1 != x1.1) (some (false, ())) (cond (!(x0.2.1.toList == x1.2.1.toList)) (some (false, ())) (cond (!(x0.2.2.1.toList == x1.2.2.1.toList)) (some (false, ())) (some (true, ()))))
abbrev laws_eqProblemS_l0s : List Sh := [.val (.sl Tiss) .no, .val (.sl Tiss) .no, .dead, .dead, .dead, .val (.int .i64) .no, .dead, .dead, .dead, .dead, .dead, .dead, .dead, .dead, .dead, .dead, .dead, .dead, .dead, .dead, .dead, .dead, .dead, .dead, .dead, .dead, .dead]
abbrev laws_eqProblemS_l0o : List (Ex × List Sh) := [(.ret, [.dead, .dead, .dead, .dead, .val .bool .no, .dead, .dead, .dead, .dead, .dead, .dead, .dead, .dead, .dead, .dead, .dead, .dead, .dead, .dead, .dead, .dead, .dead, .dead, .dead, .dead, .dead, .dead]), (.exit 0, [.dead, .dead, .dead, .dead, .dead, .dead, .dead, .dead, .dead, .dead, .dead, .dead, .dead, .dead, .dead, .dead, .dead, .dead, .dead, .dead, .dead, .dead, .dead, .dead, .dead, .dead, .dead])]
def laws_eqProblemS_l0_step {β : Type} (F : Nat) (k0 : El .bool × Unit → Option β) (k1 : Unit → Option β) (rec : El (.sl Tiss) × El (.sl Tiss) × El (.int .i64) × Unit → Option β) (x : El (.sl Tiss) × El (.sl Tiss) × El (.int .i64) × Unit) : Option β :=
  cond (decide (x.2.2.1 < (x.1.length : Int))) (obind (rdAt x.1 x.2.2.1) fun v1 => obind (rdAt x.2.1 x.2.2.1) fun v2 => obind (laws_eqProblem F v1 v2) fun r3 => cond (!r3.1) (k0 (false, ())) (rec (x.1, x.2.1, IntKind.i64.wrap (x.2.2.1 + (1 : Int)), ()))) (k1 (()))
def laws_eqProblemS_l0 (F : Nat) : LoopFn where
  n := 27
  sh := laws_eqProblemS_l0s
  outs := laws_eqProblemS_l0o
  es := [.ret, .exit 0]
  step := fun rec K x => laws_eqProblemS_l0_step F K.1 K.2.1 rec x
/-- loop.example/g01021/laws.eqProblemS -/
def laws_eqProblemS (F : Nat) (x0 : El (.sl Tiss)) (x1 : El (.sl Tiss)) : Option (Outs [(.bool, .no)]) :=
  cond ((x0.length : Int) != (x1.length : Int)) (some (false, ())) (runP (laws_eqProblemS_l0_step F (fun y4 => some (y4.1, ())) (fun y4 => some (true, ()))) none F (x0, x1, (0 : Int), ()))
/-- loop.example/g01021/laws.eqAirway -/
def laws_eqAirway (F : Nat) (x0 : El Tsiiiiii) (x1 : El Tsiiiiii) : Option (Outs [(.bool, .no)]) :=
  cond (!(x0.1.toList == x1.1.toList)) (some (false, ())) (cond (x0.2.1 != x1.2.1) (some (false, ())) (cond (x0.2.2.1 != x1.2.2.1) (some (false, ())) (cond (x0.2.2.2.1 != x1.2.2.2.1) (some (false, ())) (cond (x0.2.2.2.2.1 != x1.2.2.2.2.1) (some (false, ())) (cond (x0.2.2.2.2.2.1 != x1.2.2.2.2.2.1) (some (false, ())) (cond (x0.2.2.2.2.2.2.1 != x1.2.2.2.2.2.2.1) (some (false, ())) (some (true, ()))))))))
abbrev laws_eqAirwayS_l0s : List Sh := [.val (.sl Tsiiiiii) .no, .val (.sl Tsiiiiii) .no, .dead, .dead, .dead, .val (.int .i64) .no, .dead, .dead, .dead, .dead, .dead, .dead, .dead, .dead, .dead, .dead, .dead, .dead, .dead, .dead, .dead, .dead, .dead, .dead, .dead, .dead, .dead]
abbrev laws_eqAirwayS_l0o : List (Ex × List Sh) := [(.ret, [.dead, .dead, .dead, .dead, .val .bool .no, .dead, .dead, .dead, .dead, .dead, .dead, .dead, .dead, .dead, .dead, .dead, .dead, .dead, .dead, .dead, .dead, .dead, .dead, .dead, .dead, .dead, .dead]), (.exit 0, [.dead, .dead, .dead, .dead, .dead, .dead, .dead, .dead, .dead, .dead, .dead, .dead, .dead, .dead, .dead, .dead, .dead, .dead, .dead, .dead, .dead, .dead, .dead, .dead, .dead, .dead, .dead])]
def laws_eqAirwayS_l0_step {β : Type} (F : Nat) (k0 : El .bool × Unit → Option β) (k1 : Unit → Option β) (rec : El (.sl Tsiiiiii) × El (.sl Tsiiiiii) × El (.int .i64) × Unit → Option β) (x : El (.sl Tsiiiiii) × El (.sl Tsiiiiii) × El (.int .i64) × Unit) : Option β :=
  cond (decide (x.2.2.1 < (x.1.length : Int))) (obind (rdAt x.1 x.2.2.1) fun v1 => obind (rdAt x.2.1 x.2.2.1) fun v2 => obind (laws_eqAirway F v1 v2) fun r3 => cond (!r3.1) (k0 (false, ())) (rec (x.1, x.2.1, IntKind.i64.wrap (x.2.2.1 + (1 : Int)), ()))) (k1 (()))
def laws_eqAirwayS_l0 (F : Nat) : LoopFn where
  n := 27
  sh := laws_eqAirwayS_l0s
  outs := laws_eqAirwayS_l0o
  es := [.ret, .exit 0]
  step := fun rec K x => laws_eqAirwayS_l0_step F K.1 K.2.1 rec x
/-- loop.example/g01021/laws.eqAirwayS -/
def laws_eqAirwayS (F : Nat) (x0 : El (.sl Tsiiiiii)) (x1 : El (.sl Tsiiiiii)) : Option (Outs [(.bool, .no)]) :=
  cond ((x0.length : Int) != (x1.length : Int)) (some (false, ())) (runP (laws_eqAirwayS_l0_step F (fun y4 => some (y4.1, ())) (fun y4 => some (true, ()))) none F (x0, x1, (0 : Int), ()))
/-- loop.example/g01021/laws.eqMine -/
def laws_eqMine (F : Nat) (x0 : El TiSqsiiiiiip) (x1 : El TiSqsiiiiiip) : Option (Outs [(.bool, .no)]) :=
  cond (x0.1 != x1.1) (some (false, ())) (obind (laws_eqAirwayS F x0.2.1 x1.2.1) fun r1 => cond (!r1.1) (some (false, ())) (some (true, ())))
/-- loop.example/g01021/laws.eqDoor -/
def laws_eqDoor (F : Nat) (x0 : El Tsiii) (x1 : El Tsiii) : Option (Outs [(.bool, .no)]) :=
  cond (!(x0.1.toList == x1.1.toList)) (some (false, ())) (cond (x0.2.1 != x1.2.1) (some (false, ())) (cond (x0.2.2.1 != x1.2.2.1) (some (false, ())) (cond (x0.2.2.2.1 != x1.2.2.2.1) (some (false, ())) (some (true, ())))))
abbrev laws_eqDoorS_l0s : List Sh := [.val (.sl Tsiii) .no, .val (.sl Tsiii) .no, .dead, .dead, .dead, .val (.int .i64) .no, .dead, .dead, .dead, .dead, .dead, .dead, .dead, .dead, .dead, .dead, .dead, .dead, .dead, .dead, .dead, .dead, .dead, .dead, .dead, .dead, .dead]
abbrev laws_eqDoorS_l0o : List (Ex × List Sh) := [(.ret, [.dead, .dead, .dead, .dead, .val .bool .no, .dead, .dead, .dead, .dead, .dead, .dead, .dead, .dead, .dead, .dead, .dead, .dead, .dead, .dead, .dead, .dead, .dead, .dead, .dead, .dead, .dead, .dead]), (.exit 0, [.dead, .dead, .dead, .dead, .dead, .dead, .dead, .dead, .dead, .dead, .dead, .dead, .dead, .dead, .dead, .dead, .dead, .dead, .dead, .dead, .dead, .dead, .dead, .dead, .dead, .dead, .dead])]
def laws_eqDoorS_l0_step {β : Type} (F : Nat) (k0 : El .bool × Unit → Option β) (k1 : Unit → Option β) (rec : El (.sl Tsiii) × El (.sl Tsiii) × El (.int .i64) × Unit → Option β) (x : El (.sl Tsiii) × El (.sl Tsiii) × El (.int .i64) × Unit) : Option β :=
  cond (decide (x.2.2.1 < (x.1.length : Int))) (obind (rdAt x.1 x.2.2.1) fun v1 => obind (rdAt x.2.1 x.2.2.1) fun v2 => obind (laws_eqDoor F v1 v2) fun r3 => cond (!r3.1) (k0 (false, ())) (rec (x.1, x.2.1, IntKind.i64.wrap (x.2.2.1 + (1 : Int)), ()))) (k1 (()))
def laws_eqDoorS_l0 (F : Nat) : LoopFn where
  n := 27
  sh := laws_eqDoorS_l0s
  outs := laws_eqDoorS_l0o
  es := [.ret, .exit 0]
  step := fun rec K x => laws_eqDoorS_l0_step F K.1 K.2.1 rec x
/-- loop.example/g01021/laws.eqDoorS -/
def laws_eqDoorS (F : Nat) (x0 : El (.sl Tsiii)) (x1 : El (.sl Tsiii)) : Option (Outs [(.bool, .no)]) :=
  cond ((x0.length : Int) != (x1.length : Int)) (some (false, ())) (runP (laws_eqDoorS_l0_step F (fun y4 => some (y4.1, ())) (fun y4 => some (true, ()))) none F (x0, x1, (0 : Int), ()))
abbrev laws_eqInt64S_l0s : List Sh := [.val (.sl (.int .i64)) .no, .val (.sl (.int .i64)) .no, .dead, .dead, .dead, .val (.int .i64) .no, .dead, .dead, .dead, .dead, .dead, .dead, .dead, .dead, .dead, .dead, .dead, .dead, .dead, .dead, .dead, .dead, .dead, .dead, .dead, .dead]
abbrev laws_eqInt64S_l0o : List (Ex × List Sh) := [(.ret, [.dead, .dead, .dead, .dead, .val .bool .no, .dead, .dead, .dead, .dead, .dead, .dead, .dead, .dead, .dead, .dead, .dead, .dead, .dead, .dead, .dead, .dead, .dead, .dead, .dead, .dead, .dead]), (.exit 0, [.dead, .dead, .dead, .dead, .dead, .dead, .dead, .dead, .dead, .dead, .dead, .dead, .dead, .dead, .dead, .dead, .dead, .dead, .dead, .dead, .dead, .dead, .dead, .dead, .dead, .dead])]
def laws_eqInt64S_l0_step {β : Type} (F : Nat) (k0 : El .bool × Unit → Option β) (k1 : Unit → Option β) (rec : El (.sl (.int .i64)) × El (.sl (.int .i64)) × El (.int .i64) × Unit → Option β) (x : El (.sl (.int .i64)) × El (.sl (.int .i64)) × El (.int .i64) × Unit) : Option β :=
  cond (decide (x.2.2.1 < (x.1.length : Int))) (obind (rdAt x.1 x.2.2.1) fun v1 => obind (rdAt x.2.1 x.2.2.1) fun v2 => cond (v1 != v2) (k0 (false, ())) (rec (x.1, x.2.1, IntKind.i64.wrap (x.2.2.1 + (1 : Int)), ()))) (k1 (()))
def laws_eqInt64S_l0 (F : Nat) : LoopFn where
  n := 26
  sh := laws_eqInt64S_l0s
  outs := laws_eqInt64S_l0o
  es := [.ret, .exit 0]
  step := fun rec K x => laws_eqInt64S_l0_step F K.1 K.2.1 rec x
/-- loop.example/g01021/laws.eqInt64S -/
def laws_eqInt64S (F : Nat) (x0 : El (.sl (.int .i64))) (x1 : El (.sl (.int .i64))) : Option (Outs [(.bool, .no)]) :=
  cond ((x0.length : Int) != (x1.length : Int)) (some (false, ())) (runP (laws_eqInt64S_l0_step F (fun y3 => some (y3.1, ())) (fun y3 => some (true, ()))) none F (x0, x1, (0 : Int), ()))
abbrev laws_eqInt64SS_l0s : List Sh := [.val (.sl (.sl (.int .i64))) .no, .val (.sl (.sl (.int .i64))) .no, .dead, .dead, .dead, .val (.int .i64) .no, .dead, .dead, .dead, .dead, .dead, .dead, .dead, .dead, .dead, .dead, .dead, .dead, .dead, .dead, .dead, .dead, .dead, .dead, .dead, .dead, .dead]
abbrev laws_eqInt64SS_l0o : List (Ex × List Sh) := [(.ret, [.dead, .dead, .dead, .dead, .val .bool .no, .dead, .dead, .dead, .dead, .dead, .dead, .dead, .dead, .dead, .dead, .dead, .dead, .dead, .dead, .dead, .dead, .dead, .dead, .dead, .dead, .dead, .dead]), (.exit 0, [.dead, .dead, .dead, .dead, .dead, .dead, .dead, .dead, .dead, .dead, .dead, .dead, .dead, .dead, .dead, .dead, .dead, .dead, .dead, .dead, .dead, .dead, .dead, .dead, .dead, .dead, .dead])]
def laws_eqInt64SS_l0_step {β : Type} (F : Nat) (k0 : El .bool × Unit → Option β) (k1 : Unit → Option β) (rec : El (.sl (.sl (.int .i64))) × El (.sl (.sl (.int .i64))) × El (.int .i64) × Unit → Option β) (x : El (.sl (.sl (.int .i64))) × El (.sl (.sl (.int .i64))) × El (.int .i64) × Unit) : Option β :=
  cond (decide (x.2.2.1 < (x.1.length : Int))) (obind (rdAt x.1 x.2.2.1) fun v1 => obind (rdAt x.2.1 x.2.2.1) fun v2 => obind (laws_eqInt64S F v1 v2) fun r3 => cond (!r3.1) (k0 (false, ())) (rec (x.1, x.2.1, IntKind.i64.wrap (x.2.2.1 + (1 : Int)), ()))) (k1 (()))
def laws_eqInt64SS_l0 (F : Nat) : LoopFn where
  n := 27
  sh := laws_eqInt64SS_l0s
  outs := laws_eqInt64SS_l0o
  es := [.ret, .exit 0]
  step := fun rec K x => laws_eqInt64SS_l0_step F K.1 K.2.1 rec x
/-- loop.example/g01021/laws.eqInt64SS -/
def laws_eqInt64SS (F : Nat) (x0 : El (.sl (.sl (.int .i64)))) (x1 : El (.sl (.sl (.int .i64)))) : Option (Outs [(.bool, .no)]) :=
  cond ((x0.length : Int) != (x1.length : Int)) (some (false, ())) (runP (laws_eqInt64SS_l0_step F (fun y4 => some (y4.1, ())) (fun y4 => some (true, ()))) none F (x0, x1, (0 : Int), ()))
/-- loop.example/g01021/laws.eqFan -/
def laws_eqFan (F : Nat) (x0 : El TsiSSi) (x1 : El TsiSSi) : Option (Outs [(.bool, .no)]) :=
  cond (!(x0.1.toList == x1.1.toList)) (some (false, ())) (cond (x0.2.1 != x1.2.1) (some (false, ())) (obind (laws_eqInt64SS F x0.2.2.1 x1.2.2.1) fun r1 => cond (!r1.1) (some (false, ())) (some (true, ()))))
abbrev laws_eqFanS_l0s : List Sh := [.val (.sl TsiSSi) .no, .val (.sl TsiSSi) .no, .dead, .dead, .dead, .val (.int .i64) .no, .dead, .dead, .dead, .dead, .dead, .dead, .dead, .dead, .dead, .dead, .dead, .dead, .dead, .dead, .dead, .dead, .dead, .dead, .dead, .dead, .dead]
abbrev laws_eqFanS_l0o : List (Ex × List Sh) := [(.ret, [.dead, .dead, .dead, .dead, .val .bool .no, .dead, .dead, .dead, .dead, .dead, .dead, .dead, .dead, .dead, .dead, .dead, .dead, .dead, .dead, .dead, .dead, .dead, .dead, .dead, .dead, .dead, .dead]), (.exit 0, [.dead, .dead, .dead, .dead, .dead, .dead, .dead, .dead, .dead, .dead, .dead, .dead, .dead, .dead, .dead, .dead, .dead, .dead, .dead, .dead, .dead, .dead, .dead, .dead, .dead, .dead, .dead])]
def laws_eqFanS_l0_step {β : Type} (F : Nat) (k0 : El .bool × Unit → Option β) (k1 : Unit → Option β) (rec : El (.sl TsiSSi) × El (.sl TsiSSi) × El (.int .i64) × Unit → Option β) (x : El (.sl TsiSSi) × El (.sl TsiSSi) × El (.int .i64) × Unit) : Option β :=
  cond (decide (x.2.2.1 < (x.1.length : Int))) (obind (rdAt x.1 x.2.2.1) fun v1 => obind (rdAt x.2.1 x.2.2.1) fun v2 => obind (laws_eqFan F v1 v2) fun r3 => cond (!r3.1) (k0 (false, ())) (rec (x.1, x.2.1, IntKind.i64.wrap (x.2.2.1 + (1 : Int)), ()))) (k1 (()))
def laws_eqFanS_l0 (F : Nat) : LoopFn where
  n := 27
  sh := laws_eqFanS_l0s
  outs := laws_eqFanS_l0o
  es := [.ret, .exit 0]
  step := fun rec K x => laws_eqFanS_l0_step F K.1 K.2.1 rec x
/-- loop.example/g01021/laws.eqFanS -/
def laws_eqFanS (F : Nat) (x0 : El (.sl TsiSSi)) (x1 : El (.sl TsiSSi)) : Option (Outs [(.bool, .no)]) :=
  cond ((x0.length : Int) != (x1.length : Int)) (some (false, ())) (runP (laws_eqFanS_l0_step F (fun y4 => some (y4.1, ())) (fun y4 => some (true, ()))) none F (x0, x1, (0 : Int), ()))
/-- loop.example/g01021/laws.eqPlant -/
def laws_eqPlant (F : Nat) (x0 : El T9444c66c) (x1 : El T9444c66c) : Option (Outs [(.bool, .no)]) :=
  obind (laws_eqMine F x0.1 x1.1) fun r1 => cond (!r1.1) (some (false, ())) (obind (laws_eqDoorS F x0.2.1 x1.2.1) fun r2 => cond (!r2.1) (some (false, ())) (obind (laws_eqInt64SS F x0.2.2.1 x1.2.2.1) fun r3 => cond (!r3.1) (some (false, ())) (obind (laws_eqFanS F x0.2.2.2.1 x1.2.2.2.1) fun r4 => cond (!r4.1) (some (false, ())) (obind (laws_eqInt64S F x0.2.2.2.2.1 x1.2.2.2.2.1) fun r5 => cond (!r5.1) (some (false, ())) (cond (x0.2.2.2.2.2.1 != x1.2.2.2.2.2.1) (some (false, ())) (some (true, ())))))))
abbrev laws_eqBoolS_l0s : List Sh := [.val (.sl .bool) .no, .val (.sl .bool) .no, .dead, .dead, .dead, .val (.int .i64) .no, .dead, .dead, .dead, .dead, .dead, .dead, .dead, .dead, .dead, .dead, .dead, .dead, .dead, .dead, .dead, .dead, .dead, .dead, .dead, .dead]
abbrev laws_eqBoolS_l0o : List (Ex × List Sh) := [(.ret, [.dead, .dead, .dead, .dead, .val .bool .no, .dead, .dead, .dead, .dead, .dead, .dead, .dead, .dead, .dead, .dead, .dead, .dead, .dead, .dead, .dead, .dead, .dead, .dead, .dead, .dead, .dead]), (.exit 0, [.dead, .dead, .dead, .dead, .dead, .dead, .dead, .dead, .dead, .dead, .dead, .dead, .dead, .dead, .dead, .dead, .dead, .dead, .dead, .dead, .dead, .dead, .dead, .dead, .dead, .dead])]
def laws_eqBoolS_l0_step {β : Type} (F : Nat) (k0 : El .bool × Unit → Option β) (k1 : Unit → Option β) (rec : El (.sl .bool) × El (.sl .bool) × El (.int .i64) × Unit → Option β) (x : El (.sl .bool) × El (.sl .bool) × El (.int .i64) × Unit) : Option β :=
  cond (decide (x.2.2.1 < (x.1.length : Int))) (obind (rdAt x.1 x.2.2.1) fun v1 => obind (rdAt x.2.1 x.2.2.1) fun v2 => cond (!(v1 == v2)) (k0 (false, ())) (rec (x.1, x.2.1, IntKind.i64.wrap (x.2.2.1 + (1 : Int)), ()))) (k1 (()))
def laws_eqBoolS_l0 (F : Nat) : LoopFn where
  n := 26
  sh := laws_eqBoolS_l0s
  outs := laws_eqBoolS_l0o
  es := [.ret, .exit 0]
  step := fun rec K x => laws_eqBoolS_l0_step F K.1 K.2.1 rec x
/-- loop.example/g01021/laws.eqBoolS -/
def laws_eqBoolS (F : Nat) (x0 : El (.sl .bool)) (x1 : El (.sl .bool)) : Option (Outs [(.bool, .no)]) :=
  cond ((x0.length : Int) != (x1.length : Int)) (some (false, ())) (runP (laws_eqBoolS_l0_step F (fun y3 => some (y3.1, ())) (fun y3 => some (true, ()))) none F (x0, x1, (0 : Int), ()))
/-- loop.example/g01021/laws.eqWant -/
def laws_eqWant (F : Nat) (x0 : El Tiii) (x1 : El Tiii) : Option (Outs [(.bool, .no)]) :=
  cond (x0.1 != x1.1) (some (false, ())) (cond (x0.2.1 != x1.2.1) (some (false, ())) (cond (x0.2.2.1 != x1.2.2.1) (some (false, ())) (some (true, ()))))
abbrev laws_eqWantS_l0s : List Sh := [.val (.sl Tiii) .no, .val (.sl Tiii) .no, .dead, .dead, .dead, .val (.int .i64) .no, .dead, .dead, .dead, .dead, .dead, .dead, .dead, .dead, .dead, .dead, .dead, .dead, .dead, .dead, .dead, .dead, .dead, .dead, .dead, .dead, .dead]
abbrev laws_eqWantS_l0o : List (Ex × List Sh) := [(.ret, [.dead, .dead, .dead, .dead, .val .bool .no, .dead, .dead, .dead, .dead, .dead, .dead, .dead, .dead, .dead, .dead, .dead, .dead, .dead, .dead, .dead, .dead, .dead, .dead, .dead, .dead, .dead, .dead]), (.exit 0, [.dead, .dead, .dead, .dead, .dead, .dead, .dead, .dead, .dead, .dead, .dead, .dead, .dead, .dead, .dead, .dead, .dead, .dead, .dead, .dead, .dead, .dead, .dead, .dead, .dead, .dead, .dead])]
def laws_eqWantS_l0_step {β : Type} (F : Nat) (k0 : El .bool × Unit → Option β) (k1 : Unit → Option β) (rec : El (.sl Tiii) × El (.sl Tiii) × El (.int .i64) × Unit → Option β) (x : El (.sl Tiii) × El (.sl Tiii) × El (.int .i64) × Unit) : Option β :=
  cond (decide (x.2.2.1 < (x.1.length : Int))) (obind (rdAt x.1 x.2.2.1) fun v1 => obind (rdAt x.2.1 x.2.2.1) fun v2 => obind (laws_eqWant F v1 v2) fun r3 => cond (!r3.1) (k0 (false, ())) (rec (x.1, x.2.1, IntKind.i64.wrap (x.2.2.1 + (1 : Int)), ()))) (k1 (()))
def laws_eqWantS_l0 (F : Nat) : LoopFn where
  n := 27
  sh := laws_eqWantS_l0s
  outs := laws_eqWantS_l0o
  es := [.ret, .exit 0]
  step := fun rec K x => laws_eqWantS_l0_step F K.1 K.2.1 rec x
/-- loop.example/g01021/laws.eqWantS -/
def laws_eqWantS (F : Nat) (x0 : El (.sl Tiii)) (x1 : El (.sl Tiii)) : Option (Outs [(.bool, .no)]) :=
  cond ((x0.length : Int) != (x1.length : Int)) (some (false, ())) (runP (laws_eqWantS_l0_step F (fun y4 => some (y4.1, ())) (fun y4 => some (true, ()))) none F (x0, x1, (0 : Int), ()))
/-- loop.example/g01021/laws.eqSource -/
def laws_eqSource (F : Nat) (x0 : El Tsii) (x1 : El Tsii) : Option (Outs [(.bool, .no)]) :=
  cond (!(x0.1.toList == x1.1.toList)) (some (false, ())) (cond (x0.2.1 != x1.2.1) (some (false, ())) (cond (x0.2.2.1 != x1.2.2.1) (some (false, ())) (some (true, ()))))
abbrev laws_eqSourceS_l0s : List Sh := [.val (.sl Tsii) .no, .val (.sl Tsii) .no, .dead, .dead, .dead, .val (.int .i64) .no, .dead, .dead, .dead, .dead, .dead, .dead, .dead, .dead, .dead, .dead, .dead, .dead, .dead, .dead, .dead, .dead, .dead, .dead, .dead, .dead, .dead]
abbrev laws_eqSourceS_l0o : List (Ex × List Sh) := [(.ret, [.dead, .dead, .dead, .dead, .val .bool .no, .dead, .dead, .dead, .dead, .dead, .dead, .dead, .dead, .dead, .dead, .dead, .dead, .dead, .dead, .dead, .dead, .dead, .dead, .dead, .dead, .dead, .dead]), (.exit 0, [.dead, .dead, .dead, .dead, .dead, .dead, .dead, .dead, .dead, .dead, .dead, .dead, .dead, .dead, .dead, .dead, .dead, .dead, .dead, .dead, .dead, .dead, .dead, .dead, .dead, .dead, .dead])]
def laws_eqSourceS_l0_step {β : Type} (F : Nat) (k0 : El .bool × Unit → Option β) (k1 : Unit → Option β) (rec : El (.sl Tsii) × El (.sl Tsii) × El (.int .i64) × Unit → Option β) (x : El (.sl Tsii) × El (.sl Tsii) × El (.int .i64) × Unit) : Option β :=
  cond (decide (x.2.2.1 < (x.1.length : Int))) (obind (rdAt x.1 x.2.2.1) fun v1 => obind (rdAt x.2.1 x.2.2.1) fun v2 => obind (laws_eqSource F v1 v2) fun r3 => cond (!r3.1) (k0 (false, ())) (rec (x.1, x.2.1, IntKind.i64.wrap (x.2.2.1 + (1 : Int)), ()))) (k1 (()))
def laws_eqSourceS_l0 (F : Nat) : LoopFn where
  n := 27
  sh := laws_eqSourceS_l0s
  outs := laws_eqSourceS_l0o
  es := [.ret, .exit 0]
  step := fun rec K x => laws_eqSourceS_l0_step F K.1 K.2.1 rec x
/-- loop.example/g01021/laws.eqSourceS -/
def laws_eqSourceS (F : Nat) (x0 : El (.sl Tsii)) (x1 : El (.sl Tsii)) : Option (Outs [(.bool, .no)]) :=
  cond ((x0.length : Int) != (x1.length : Int)) (some (false, ())) (runP (laws_eqSourceS_l0_step F (fun y4 => some (y4.1, ())) (fun y4 => some (true, ()))) none F (x0, x1, (0 : Int), ()))
/-- loop.example/g01021/laws.eqJob -/
def laws_eqJob (F : Nat) (x0 : El Tsiii) (x1 : El Tsiii) : Option (Outs [(.bool, .no)]) :=
  cond (!(x0.1.toList == x1.1.toList)) (some (false, ())) (cond (x0.2.1 != x1.2.1) (some (false, ())) (cond (x0.2.2.1 != x1.2.2.1) (some (false, ())) (cond (x0.2.2.2.1 != x1.2.2.2.1) (some (false, ())) (some (true, ())))))
abbrev laws_eqJobS_l0s : List Sh := [.val (.sl Tsiii) .no, .val (.sl Tsiii) .no, .dead, .dead, .dead, .val (.int .i64) .no, .dead, .dead, .dead, .dead, .dead, .dead, .dead, .dead, .dead, .dead, .dead, .dead, .dead, .dead, .dead, .dead, .dead, .dead, .dead, .dead, .dead]
abbrev laws_eqJobS_l0o : List (Ex × List Sh) := [(.ret, [.dead, .dead, .dead, .dead, .val .bool .no, .dead, .dead, .dead, .dead, .dead, .dead, .dead, .dead, .dead, .dead, .dead, .dead, .dead, .dead, .dead, .dead, .dead, .dead, .dead, .dead, .dead, .dead]), (.exit 0, [.dead, .dead, .dead, .dead, .dead, .dead, .dead, .dead, .dead, .dead, .dead, .dead, .dead, .dead, .dead, .dead, .dead, .dead, .dead, .dead, .dead, .dead, .dead, .dead, .dead, .dead, .dead])]
def laws_eqJobS_l0_step {β : Type} (F : Nat) (k0 : El .bool × Unit → Option β) (k1 : Unit → Option β) (rec : El (.sl Tsiii) × El (.sl Tsiii) × El (.int .i64) × Unit → Option β) (x : El (.sl Tsiii) × El (.sl Tsiii) × El (.int .i64) × Unit) : Option β :=
  cond (decide (x.2.2.1 < (x.1.length : Int))) (obind (rdAt x.1 x.2.2.1) fun v1 => obind (rdAt x.2.1 x.2.2.1) fun v2 => obind (laws_eqJob F v1 v2) fun r3 => cond (!r3.1) (k0 (false, ())) (rec (x.1, x.2.1, IntKind.i64.wrap (x.2.2.1 + (1 : Int)), ()))) (k1 (()))
def laws_eqJobS_l0 (F : Nat) : LoopFn where
  n := 27
  sh := laws_eqJobS_l0s
  outs := laws_eqJobS_l0o
  es := [.ret, .exit 0]
  step := fun rec K x => laws_eqJobS_l0_step F K.1 K.2.1 rec x
/-- loop.example/g01021/laws.eqJobS -/
def laws_eqJobS (F : Nat) (x0 : El (.sl Tsiii)) (x1 : El (.sl Tsiii)) : Option (Outs [(.bool, .no)]) :=
  cond ((x0.length : Int) != (x1.length : Int)) (some (false, ())) (runP (laws_eqJobS_l0_step F (fun y4 => some (y4.1, ())) (fun y4 => some (true, ()))) none F (x0, x1, (0 : Int), ()))
/-- loop.example/g01021/laws.eqCrew -/
def laws_eqCrew (F : Nat) (x0 : El Tsii) (x1 : El Tsii) : Option (Outs [(.bool, .no)]) :=
  cond (!(x0.1.toList == x1.1.toList)) (some (false, ())) (cond (x0.2.1 != x1.2.1) (some (false, ())) (cond (x0.2.2.1 != x1.2.2.1) (some (false, ())) (some (true, ()))))
abbrev laws_eqCrewS_l0s : List Sh := [.val (.sl Tsii) .no, .val (.sl Tsii) .no, .dead, .dead, .dead, .val (.int .i64) .no, .dead, .dead, .dead, .dead, .dead, .dead, .dead, .dead, .dead, .dead, .dead, .dead, .dead, .dead, .dead, .dead, .dead, .dead, .dead, .dead, .dead]
abbrev laws_eqCrewS_l0o : List (Ex × List Sh) := [(.ret, [.dead, .dead, .dead, .dead, .val .bool .no, .dead, .dead, .dead, .dead, .dead, .dead, .dead, .dead, .dead, .dead, .dead, .dead, .dead, .dead, .dead, .dead, .dead, .dead, .dead, .dead, .dead, .dead]), (.exit 0, [.dead, .dead, .dead, .dead, .dead, .dead, .dead, .dead, .dead, .dead, .dead, .dead, .dead, .dead, .dead, .dead, .dead, .dead, .dead, .dead, .dead, .dead, .dead, .dead, .dead, .dead, .dead])]
def laws_eqCrewS_l0_step {β : Type} (F : Nat) (k0 : El .bool × Unit → Option β) (k1 : Unit → Option β) (rec : El (.sl Tsii) × El (.sl Tsii) × El (.int .i64) × Unit → Option β) (x : El (.sl Tsii) × El (.sl Tsii) × El (.int .i64) × Unit) : Option β :=
  cond (decide (x.2.2.1 < (x.1.length : Int))) (obind (rdAt x.1 x.2.2.1) fun v1 => obind (rdAt x.2.1 x.2.2.1) fun v2 => obind (laws_eqCrew F v1 v2) fun r3 => cond (!r3.1) (k0 (false, ())) (rec (x.1, x.2.1, IntKind.i64.wrap (x.2.2.1 + (1 : Int)), ()))) (k1 (()))
def laws_eqCrewS_l0 (F : Nat) : LoopFn where
  n := 27
  sh := laws_eqCrewS_l0s
  outs := laws_eqCrewS_l0o
  es := [.ret, .exit 0]
  step := fun rec K x => laws_eqCrewS_l0_step F K.1 K.2.1 rec x
/-- loop.example/g01021/laws.eqCrewS -/
def laws_eqCrewS (F : Nat) (x0 : El (.sl Tsii)) (x1 : El (.sl Tsii)) : Option (Outs [(.bool, .no)]) :=
  cond ((x0.length : Int) != (x1.length : Int)) (some (false, ())) (runP (laws_eqCrewS_l0_step F (fun y4 => some (y4.1, ())) (fun y4 => some (true, ()))) none F (x0, x1, (0 : Int), ()))
/-- loop.example/g01021/laws.eqFire -/
def laws_eqFire (F : Nat) (x0 : El Tiii) (x1 : El Tiii) : Option (Outs [(.bool, .no)]) :=
  cond (x0.1 != x1.1) (some (false, ())) (cond (x0.2.1 != x1.2.1) (some (false, ())) (cond (x0.2.2.1 != x1.2.2.1) (some (false, ())) (some (true, ()))))
/-- loop.example/g01021/laws.eqPlan -/
def laws_eqPlan (F : Nat) (x0 : El Tc66acf8c) (x1 : El Tc66acf8c) : Option (Outs [(.bool, .no)]) :=
  obind (laws_eqPlant F x0.1 x1.1) fun r1 => cond (!r1.1) (some (false, ())) (obind (laws_eqBoolS F x0.2.1 x1.2.1) fun r2 => cond (!r2.1) (some (false, ())) (obind (laws_eqInt64S F x0.2.2.1 x1.2.2.1) fun r3 => cond (!r3.1) (some (false, ())) (obind (laws_eqWantS F x0.2.2.2.1 x1.2.2.2.1) fun r4 => cond (!r4.1) (some (false, ())) (obind (laws_eqSourceS F x0.2.2.2.2.1 x1.2.2.2.2.1) fun r5 => cond (!r5.1) (some (false, ())) (cond (x0.2.2.2.2.2.1 != x1.2.2.2.2.2.1) (some (false, ())) (obind (laws_eqJobS F x0.2.2.2.2.2.2.1 x1.2.2.2.2.2.2.1) fun r6 => cond (!r6.1) (some (false, ())) (obind (laws_eqCrewS F x0.2.2.2.2.2.2.2.1 x1.2.2.2.2.2.2.2.1) fun r7 => cond (!r7.1) (some (false, ())) (obind (laws_eqInt64S F x0.2.2.2.2.2.2.2.2.1 x1.2.2.2.2.2.2.2.2.1) fun r8 => cond (!r8.1) (some (false, ())) (obind (laws_eqFire F x0.2.2.2.2.2.2.2.2.2.1 x1.2.2.2.2.2.2.2.2.2.1) fun r9 => cond (!r9.1) (some (false, ())) (cond (x0.2.2.2.2.2.2.2.2.2.2.1 != x1.2.2.2.2.2.2.2.2.2.2.1) (some (false, ())) (some (true, ()))))))))))))
abbrev laws_markText_l0s : List Sh := [.val (.int .i64) .no, .dead, .dead, .val .str .no, .dead, .dead, .dead, .dead, .dead, .dead, .dead, .dead, .dead, .dead, .dead, .dead, .dead, .dead, .dead, .dead]
abbrev laws_markText_l0o : List (Ex × List Sh) := [(.exit 0, [.dead, .dead, .dead, .val .str .no, .dead, .dead, .dead, .dead, .dead, .dead, .dead, .dead, .dead, .dead, .dead, .dead, .dead, .dead, .dead, .dead])]
def laws_markText_l0_step {β : Type} (F : Nat) (k0 : El .str × Unit → Option β) (rec : El (.int .i64) × El .str × Unit → Option β) (x : El (.int .i64) × El .str × Unit) : Option β :=
  cond (decide (x.1 > (0 : Int))) (guardB (decide ((bytesOf ([IntKind.u8.wrap (IntKind.i64.wrap ((48 : Int) + (x.1.tmod (10 : Int))))])).size + x.2.1.size ≤ 9223372036854775807)) (rec (IntKind.i64.wrap (x.1.tdiv (10 : Int)), (bytesOf ([IntKind.u8.wrap (IntKind.i64.wrap ((48 : Int) + (x.1.tmod (10 : Int))))])) ++ x.2.1, ()))) (k0 (x.2.1, ()))
def laws_markText_l0 (F : Nat) : LoopFn where
  n := 20
  sh := laws_markText_l0s
  outs := laws_markText_l0o
  es := [.exit 0]
  step := fun rec K x => laws_markText_l0_step F K.1 rec x
/-- loop.example/g01021/laws.markText -/
def laws_markText (F : Nat) (x0 : El (.int .i64)) : Option (Outs [(.str, .no)]) :=
  cond (decide (x0 ≤ (0 : Int))) (some ((⟨#[109, 48]⟩ : ByteArray), ())) (runP (laws_markText_l0_step F (fun y1 => guardB (decide ((⟨#[109]⟩ : ByteArray).size + y1.1.size ≤ 9223372036854775807)) (some ((⟨#[109]⟩ : ByteArray) ++ y1.1, ())))) none F (x0, (⟨#[]⟩ : ByteArray), ()))
abbrev laws_markAirwayS_l0s : List Sh := [.val (.sl Tsiiiiii) (.own (some 0) .no), .val (.int .i64) .no, .dead, .dead, .dead, .val (.int .i64) .no, .dead, .dead, .dead, .dead, .dead, .dead, .dead, .dead, .dead, .dead, .dead, .dead, .dead, .dead, .dead, .dead, .dead, .dead, .dead, .dead, .dead, .dead, .dead, .dead, .dead, .dead, .dead, .dead, .dead, .dead, .dead, .dead, .dead, .dead, .dead, .dead, .dead, .dead, .dead, .dead, .dead, .dead, .dead, .dead, .dead, .dead, .dead, .dead, .dead, .dead, .dead, .dead, .dead, .dead, .dead, .dead, .dead]
abbrev laws_markAirwayS_l0o : List (Ex × List Sh) := [(.exit 0, [.val (.sl Tsiiiiii) (.own (some 0) .no), .val (.int .i64) .no, .dead, .dead, .dead, .dead, .dead, .dead, .dead, .dead, .dead, .dead, .dead, .dead, .dead, .dead, .dead, .dead, .dead, .dead, .dead, .dead, .dead, .dead, .dead, .dead, .dead, .dead, .dead, .dead, .dead, .dead, .dead, .dead, .dead, .dead, .dead, .dead, .dead, .dead, .dead, .dead, .dead, .dead, .dead, .dead, .dead, .dead, .dead, .dead, .dead, .dead, .dead, .dead, .dead, .dead, .dead, .dead, .dead, .dead, .dead, .dead, .dead])]
def laws_markAirwayS_l0_step {β : Type} (F : Nat) (k0 : El (.sl Tsiiiiii) × El (.int .i64) × Unit → Option β) (rec : El (.sl Tsiiiiii) × El (.int .i64) × El (.int .i64) × Unit → Option β) (x : El (.sl Tsiiiiii) × El (.int .i64) × El (.int .i64) × Unit) : Option β :=
  cond (decide (x.2.2.1 < (x.1.length : Int))) (obind (laws_markText F x.2.1) fun r1 => obind (rdAt x.1 x.2.2.1) fun v2 => obind (rdAt (x.1.set x.2.2.1.toNat (r1.1, v2.2)) x.2.2.1) fun v3 => obind (rdAt ((x.1.set x.2.2.1.toNat (r1.1, v2.2)).set x.2.2.1.toNat (v3.1, (IntKind.i64.wrap (x.2.1 + (1 : Int)), v3.2.2))) x.2.2.1) fun v4 => obind (rdAt (((x.1.set x.2.2.1.toNat (r1.1, v2.2)).set x.2.2.1.toNat (v3.1, (IntKind.i64.wrap (x.2.1 + (1 : Int)), v3.2.2))).set x.2.2.1.toNat (v4.1, (v4.2.1, (IntKind.i64.wrap ((IntKind.i64.wrap (x.2.1 + (1 : Int))) + (1 : Int)), v4.2.2.2)))) x.2.2.1) fun v5 => obind (rdAt ((((x.1.set x.2.2.1.toNat (r1.1, v2.2)).set x.2.2.1.toNat (v3.1, (IntKind.i64.wrap (x.2.1 + (1 : Int)), v3.2.2))).set x.2.2.1.toNat (v4.1, (v4.2.1, (IntKind.i64.wrap ((IntKind.i64.wrap (x.2.1 + (1 : Int))) + (1 : Int)), v4.2.2.2)))).set x.2.2.1.toNat (v5.1, (v5.2.1, (v5.2.2.1, (IntKind.i64.wrap ((IntKind.i64.wrap ((IntKind.i64.wrap (x.2.1 + (1 : Int))) + (1 : Int))) + (1 : Int)), v5.2.2.2.2))))) x.2.2.1) fun v6 => obind (rdAt (((((x.1.set x.2.2.1.toNat (r1.1, v2.2)).set x.2.2.1.toNat (v3.1, (IntKind.i64.wrap (x.2.1 + (1 : Int)), v3.2.2))).set x.2.2.1.toNat (v4.1, (v4.2.1, (IntKind.i64.wrap ((IntKind.i64.wrap (x.2.1 + (1 : Int))) + (1 : Int)), v4.2.2.2)))).set x.2.2.1.toNat (v5.1, (v5.2.1, (v5.2.2.1, (IntKind.i64.wrap ((IntKind.i64.wrap ((IntKind.i64.wrap (x.2.1 + (1 : Int))) + (1 : Int))) + (1 : Int)), v5.2.2.2.2))))).set x.2.2.1.toNat (v6.1, (v6.2.1, (v6.2.2.1, (v6.2.2.2.1, (IntKind.i64.wrap ((IntKind.i64.wrap ((IntKind.i64.wrap ((IntKind.i64.wrap (x.2.1 + (1 : Int))) + (1 : Int))) + (1 : Int))) + (1 : Int)), v6.2.2.2.2.2)))))) x.2.2.1) fun v7 => obind (rdAt ((((((x.1.set x.2.2.1.toNat (r1.1, v2.2)).set x.2.2.1.toNat (v3.1, (IntKind.i64.wrap (x.2.1 + (1 : Int)), v3.2.2))).set x.2.2.1.toNat (v4.1, (v4.2.1, (IntKind.i64.wrap ((IntKind.i64.wrap (x.2.1 + (1 : Int))) + (1 : Int)), v4.2.2.2)))).set x.2.2.1.toNat (v5.1, (v5.2.1, (v5.2.2.1, (IntKind.i64.wrap ((IntKind.i64.wrap ((IntKind.i64.wrap (x.2.1 + (1 : Int))) + (1 : Int))) + (1 : Int)), v5.2.2.2.2))))).set x.2.2.1.toNat (v6.1, (v6.2.1, (v6.2.2.1, (v6.2.2.2.1, (IntKind.i64.wrap ((IntKind.i64.wrap ((IntKind.i64.wrap ((IntKind.i64.wrap (x.2.1 + (1 : Int))) + (1 : Int))) + (1 : Int))) + (1 : Int)), v6.2.2.2.2.2)))))).set x.2.2.1.toNat (v7.1, (v7.2.1, (v7.2.2.1, (v7.2.2.2.1, (v7.2.2.2.2.1, (IntKind.i64.wrap ((IntKind.i64.wrap ((IntKind.i64.wrap ((IntKind.i64.wrap ((IntKind.i64.wrap (x.2.1 + (1 : Int))) + (1 : Int))) + (1 : Int))) + (1 : Int))) + (1 : Int)), v7.2.2.2.2.2.2))))))) x.2.2.1) fun v8 => rec (((((((x.1.set x.2.2.1.toNat (r1.1, v2.2)).set x.2.2.1.toNat (v3.1, (IntKind.i64.wrap (x.2.1 + (1 : Int)), v3.2.2))).set x.2.2.1.toNat (v4.1, (v4.2.1, (IntKind.i64.wrap ((IntKind.i64.wrap (x.2.1 + (1 : Int))) + (1 : Int)), v4.2.2.2)))).set x.2.2.1.toNat (v5.1, (v5.2.1, (v5.2.2.1, (IntKind.i64.wrap ((IntKind.i64.wrap ((IntKind.i64.wrap (x.2.1 + (1 : Int))) + (1 : Int))) + (1 : Int)), v5.2.2.2.2))))).set x.2.2.1.toNat (v6.1, (v6.2.1, (v6.2.2.1, (v6.2.2.2.1, (IntKind.i64.wrap ((IntKind.i64.wrap ((IntKind.i64.wrap ((IntKind.i64.wrap (x.2.1 + (1 : Int))) + (1 : Int))) + (1 : Int))) + (1 : Int)), v6.2.2.2.2.2)))))).set x.2.2.1.toNat (v7.1, (v7.2.1, (v7.2.2.1, (v7.2.2.2.1, (v7.2.2.2.2.1, (IntKind.i64.wrap ((IntKind.i64.wrap ((IntKind.i64.wrap ((IntKind.i64.wrap ((IntKind.i64.wrap (x.2.1 + (1 : Int))) + (1 : Int))) + (1 : Int))) + (1 : Int))) + (1 : Int)), v7.2.2.2.2.2.2))))))).set x.2.2.1.toNat (v8.1, (v8.2.1, (v8.2.2.1, (v8.2.2.2.1, (v8.2.2.2.2.1, (v8.2.2.2.2.2.1, (IntKind.i64.wrap ((IntKind.i64.wrap ((IntKind.i64.wrap ((IntKind.i64.wrap ((IntKind.i64.wrap ((IntKind.i64.wrap (x.2.1 + (1 : Int))) + (1 : Int))) + (1 : Int))) + (1 : Int))) + (1 : Int))) + (1 : Int)), v8.2.2.2.2.2.2.2))))))), IntKind.i64.wrap ((IntKind.i64.wrap ((IntKind.i64.wrap ((IntKind.i64.wrap ((IntKind.i64.wrap ((IntKind.i64.wrap ((IntKind.i64.wrap (x.2.1 + (1 : Int))) + (1 : Int))) + (1 : Int))) + (1 : Int))) + (1 : Int))) + (1 : Int))) + (1 : Int)), IntKind.i64.wrap (x.2.2.1 + (1 : Int)), ())) (k0 (x.1, x.2.1, ()))
def laws_markAirwayS_l0 (F : Nat) : LoopFn where
  n := 63
  sh := laws_markAirwayS_l0s
  outs := laws_markAirwayS_l0o
  es := [.exit 0]
  step := fun rec K x => laws_markAirwayS_l0_step F K.1 rec x
/-- loop.example/g01021/laws.markAirwayS -/
def laws_markAirwayS (F : Nat) (x0 : El (.sl Tsiiiiii)) (x1 : El (.int .i64)) : Option (Outs [((.int .i64), .no)] × El (.sl Tsiiiiii)) :=
  runP (laws_markAirwayS_l0_step F (fun y9 => some ((y9.2.1, ()), y9.1))) none F (x0, x1, (0 : Int), ())
/-- loop.example/g01021/laws.markMine -/
def laws_markMine (F : Nat) (x0 : El TiSqsiiiiiip) (x1 : El (.int .i64)) : Option (Outs [((.int .i64), .no)] × El TiSqsiiiiiip) :=
  obind (laws_markAirwayS F x0.2.1 x1) fun r1 => some ((r1.1.1, ()), (x0.1, (r1.2, x0.2.2)))
abbrev laws_markDoorS_l0s : List Sh := [.val (.sl Tsiii) (.own (some 0) .no), .val (.int .i64) .no, .dead, .dead, .dead, .val (.int .i64) .no, .dead, .dead, .dead, .dead, .dead, .dead, .dead, .dead, .dead, .dead, .dead, .dead, .dead, .dead, .dead, .dead, .dead, .dead, .dead, .dead, .dead, .dead, .dead, .dead, .dead, .dead, .dead, .dead, .dead, .dead, .dead, .dead, .dead, .dead, .dead, .dead]
abbrev laws_markDoorS_l0o : List (Ex × List Sh) := [(.exit 0, [.val (.sl Tsiii) (.own (some 0) .no), .val (.int .i64) .no, .dead, .dead, .dead, .dead, .dead, .dead, .dead, .dead, .dead, .dead, .dead, .dead, .dead, .dead, .dead, .dead, .dead, .dead, .dead, .dead, .dead, .dead, .dead, .dead, .dead, .dead, .dead, .dead, .dead, .dead, .dead, .dead, .dead, .dead, .dead, .dead, .dead, .dead, .dead, .dead])]
def laws_markDoorS_l0_step {β : Type} (F : Nat) (k0 : El (.sl Tsiii) × El (.int .i64) × Unit → Option β) (rec : El (.sl Tsiii) × El (.int .i64) × El (.int .i64) × Unit → Option β) (x : El (.sl Tsiii) × El (.int .i64) × El (.int .i64) × Unit) : Option β :=
  cond (decide (x.2.2.1 < (x.1.length : Int))) (obind (laws_markText F x.2.1) fun r1 => obind (rdAt x.1 x.2.2.1) fun v2 => obind (rdAt (x.1.set x.2.2.1.toNat (r1.1, v2.2)) x.2.2.1) fun v3 => obind (rdAt ((x.1.set x.2.2.1.toNat (r1.1, v2.2)).set x.2.2.1.toNat (v3.1, (IntKind.i64.wrap (x.2.1 + (1 : Int)), v3.2.2))) x.2.2.1) fun v4 => obind (rdAt (((x.1.set x.2.2.1.toNat (r1.1, v2.2)).set x.2.2.1.toNat (v3.1, (IntKind.i64.wrap (x.2.1 + (1 : Int)), v3.2.2))).set x.2.2.1.toNat (v4.1, (v4.2.1, (IntKind.i64.wrap ((IntKind.i64.wrap (x.2.1 + (1 : Int))) + (1 : Int)), v4.2.2.2)))) x.2.2.1) fun v5 => rec ((((x.1.set x.2.2.1.toNat (r1.1, v2.2)).set x.2.2.1.toNat (v3.1, (IntKind.i64.wrap (x.2.1 + (1 : Int)), v3.2.2))).set x.2.2.1.toNat (v4.1, (v4.2.1, (IntKind.i64.wrap ((IntKind.i64.wrap (x.2.1 + (1 : Int))) + (1 : Int)), v4.2.2.2)))).set x.2.2.1.toNat (v5.1, (v5.2.1, (v5.2.2.1, (IntKind.i64.wrap ((IntKind.i64.wrap ((IntKind.i64.wrap (x.2.1 + (1 : Int))) + (1 : Int))) + (1 : Int)), v5.2.2.2.2)))), IntKind.i64.wrap ((IntKind.i64.wrap ((IntKind.i64.wrap ((IntKind.i64.wrap (x.2.1 + (1 : Int))) + (1 : Int))) + (1 : Int))) + (1 : Int)), IntKind.i64.wrap (x.2.2.1 + (1 : Int)), ())) (k0 (x.1, x.2.1, ()))
def laws_markDoorS_l0 (F : Nat) : LoopFn where
  n := 42
  sh := laws_markDoorS_l0s
  outs := laws_markDoorS_l0o
  es := [.exit 0]
  step := fun rec K x => laws_markDoorS_l0_step F K.1 rec x
/-- loop.example/g01021/laws.markDoorS -/
def laws_markDoorS (F : Nat) (x0 : El (.sl Tsiii)) (x1 : El (.int .i64)) : Option (Outs [((.int .i64), .no)] × El (.sl Tsiii)) :=
  runP (laws_markDoorS_l0_step F (fun y6 => some ((y6.2.1, ()), y6.1))) none F (x0, x1, (0 : Int), ())
abbrev laws_markInt64S_l0s : List Sh := [.val (.sl (.int .i64)) (.own (some 0) .no), .val (.int .i64) .no, .dead, .dead, .dead, .val (.int .i64) .no, .dead, .dead, .dead, .dead, .dead, .dead, .dead, .dead, .dead, .dead, .dead, .dead, .dead]
abbrev laws_markInt64S_l0o : List (Ex × List Sh) := [(.exit 0, [.val (.sl (.int .i64)) (.own (some 0) .no), .val (.int .i64) .no, .dead, .dead, .dead, .dead, .dead, .dead, .dead, .dead, .dead, .dead, .dead, .dead, .dead, .dead, .dead, .dead, .dead])]
def laws_markInt64S_l0_step {β : Type} (F : Nat) (k0 : El (.sl (.int .i64)) × El (.int .i64) × Unit → Option β) (rec : El (.sl (.int .i64)) × El (.int .i64) × El (.int .i64) × Unit → Option β) (x : El (.sl (.int .i64)) × El (.int .i64) × El (.int .i64) × Unit) : Option β :=
  cond (decide (x.2.2.1 < (x.1.length : Int))) (obind (rdAt x.1 x.2.2.1) fun v1 => rec (x.1.set x.2.2.1.toNat x.2.1, IntKind.i64.wrap (x.2.1 + (1 : Int)), IntKind.i64.wrap (x.2.2.1 + (1 : Int)), ())) (k0 (x.1, x.2.1, ()))
def laws_markInt64S_l0 (F : Nat) : LoopFn where
  n := 19
  sh := laws_markInt64S_l0s
  outs := laws_markInt64S_l0o
  es := [.exit 0]
  step := fun rec K x => laws_markInt64S_l0_step F K.1 rec x
/-- loop.example/g01021/laws.markInt64S -/
def laws_markInt64S (F : Nat) (x0 : El (.sl (.int .i64))) (x1 : El (.int .i64)) : Option (Outs [((.int .i64), .no)] × El (.sl (.int .i64))) :=
  runP (laws_markInt64S_l0_step F (fun y2 => some ((y2.2.1, ()), y2.1))) none F (x0, x1, (0 : Int), ())
abbrev laws_markInt64SS_l0s : List Sh := [.val (.sl (.sl (.int .i64))) (.own (some 0) (.own none .no)), .val (.int .i64) .no, .dead, .dead, .dead, .val (.int .i64) .no, .dead, .dead, .dead, .dead, .dead, .dead, .dead, .dead, .dead, .dead, .dead, .dead, .dead]
abbrev laws_markInt64SS_l0o : List (Ex × List Sh) := [(.exit 0, [.val (.sl (.sl (.int .i64))) (.own (some 0) (.own none .no)), .val (.int .i64) .no, .dead, .dead, .dead, .dead, .dead, .dead, .dead, .dead, .dead, .dead, .dead, .dead, .dead, .dead, .dead, .dead, .dead])]
def laws_markInt64SS_l0_step {β : Type} (F : Nat) (k0 : El (.sl (.sl (.int .i64))) × El (.int .i64) × Unit → Option β) (rec : El (.sl (.sl (.int .i64))) × El (.int .i64) × El (.int .i64) × Unit → Option β) (x : El (.sl (.sl (.int .i64))) × El (.int .i64) × El (.int .i64) × Unit) : Option β :=
  cond (decide (x.2.2.1 < (x.1.length : Int))) (obind (rdAt x.1 x.2.2.1) fun v1 => obind (laws_markInt64S F v1 x.2.1) fun r2 => rec (x.1.set x.2.2.1.toNat r2.2, r2.1.1, IntKind.i64.wrap (x.2.2.1 + (1 : Int)), ())) (k0 (x.1, x.2.1, ()))
def laws_markInt64SS_l0 (F : Nat) : LoopFn where
  n := 19
  sh := laws_markInt64SS_l0s
  outs := laws_markInt64SS_l0o
  es := [.exit 0]
  step := fun rec K x => laws_markInt64SS_l0_step F K.1 rec x
/-- loop.example/g01021/laws.markInt64SS -/
def laws_markInt64SS (F : Nat) (x0 : El (.sl (.sl (.int .i64)))) (x1 : El (.int .i64)) : Option (Outs [((.int .i64), .no)] × El (.sl (.sl (.int .i64)))) :=
  runP (laws_markInt64SS_l0_step F (fun y3 => some ((y3.2.1, ()), y3.1))) none F (x0, x1, (0 : Int), ())
abbrev laws_markFanS_l0s : List Sh := [.val (.sl TsiSSi) (.own (some 0) (.pr .no (.pr .no (.pr (.own none (.own none .no)) .no)))), .val (.int .i64) .no, .dead, .dead, .dead, .val (.int .i64) .no, .dead, .dead, .dead, .dead, .dead, .dead, .dead, .dead, .dead, .dead, .dead, .dead, .dead, .dead, .dead, .dead, .dead, .dead, .dead, .dead, .dead, .dead, .dead, .dead, .dead, .dead, .dead, .dead, .dead]
abbrev laws_markFanS_l0o : List (Ex × List Sh) := [(.exit 0, [.val (.sl TsiSSi) (.own (some 0) (.pr .no (.pr .no (.pr (.own none (.own none .no)) .no)))), .val (.int .i64) .no, .dead, .dead, .dead, .dead, .dead, .dead, .dead, .dead, .dead, .dead, .dead, .dead, .dead, .dead, .dead, .dead, .dead, .dead, .dead, .dead, .dead, .dead, .dead, .dead, .dead, .dead, .dead, .dead, .dead, .dead, .dead, .dead, .dead])]
def laws_markFanS_l0_step {β : Type} (F : Nat) (k0 : El (.sl TsiSSi) × El (.int .i64) × Unit → Option β) (rec : El (.sl TsiSSi) × El (.int .i64) × El (.int .i64) × Unit → Option β) (x : El (.sl TsiSSi) × El (.int .i64) × El (.int .i64) × Unit) : Option β :=
  cond (decide (x.2.2.1 < (x.1.length : Int))) (obind (laws_markText F x.2.1) fun r1 => obind (rdAt x.1 x.2.2.1) fun v2 => obind (rdAt (x.1.set x.2.2.1.toNat (r1.1, v2.2)) x.2.2.1) fun v3 => obind (rdAt ((x.1.set x.2.2.1.toNat (r1.1, v2.2)).set x.2.2.1.toNat (v3.1, (IntKind.i64.wrap (x.2.1 + (1 : Int)), v3.2.2))) x.2.2.1) fun v4 => obind (laws_markInt64SS F v4.2.2.1 (IntKind.i64.wrap ((IntKind.i64.wrap (x.2.1 + (1 : Int))) + (1 : Int)))) fun r5 => rec (((x.1.set x.2.2.1.toNat (r1.1, v2.2)).set x.2.2.1.toNat (v3.1, (IntKind.i64.wrap (x.2.1 + (1 : Int)), v3.2.2))).set x.2.2.1.toNat (v4.1, (v4.2.1, (r5.2, v4.2.2.2))), r5.1.1, IntKind.i64.wrap (x.2.2.1 + (1 : Int)), ())) (k0 (x.1, x.2.1, ()))
def laws_markFanS_l0 (F : Nat) : LoopFn where
  n := 35
  sh := laws_markFanS_l0s
  outs := laws_markFanS_l0o
  es := [.exit 0]
  step := fun rec K x => laws_markFanS_l0_step F K.1 rec x
/-- loop.example/g01021/laws.markFanS -/
def laws_markFanS (F : Nat) (x0 : El (.sl TsiSSi)) (x1 : El (.int .i64)) : Option (Outs [((.int .i64), .no)] × El (.sl TsiSSi)) :=
  runP (laws_markFanS_l0_step F (fun y6 => some ((y6.2.1, ()), y6.1))) none F (x0, x1, (0 : Int), ())
/-- loop.example/g01021/laws.markPlant -/
def laws_markPlant (F : Nat) (x0 : El T9444c66c) (x1 : El (.int .i64)) : Option (Outs [((.int .i64), .no)] × El T9444c66c) :=
  obind (laws_markMine F x0.1 x1) fun r1 => obind (laws_markDoorS F x0.2.1 r1.1.1) fun r2 => obind (laws_markInt64SS F x0.2.2.1 r2.1.1) fun r3 => obind (laws_markFanS F x0.2.2.2.1 r3.1.1) fun r4 => obind (laws_markInt64S F x0.2.2.2.2.1 r4.1.1) fun r5 => some ((r5.1.1, ()), ((x0.1.1, (r1.2.2.1, x0.1.2.2)), (r2.2, (r3.2, (r4.2, (r5.2, (x0.2.2.2.2.2.1, x0.2.2.2.2.2.2)))))))
abbrev laws_markBoolS_l0s : List Sh := [.val (.sl .bool) (.own (some 0) .no), .val (.int .i64) .no, .dead, .dead, .dead, .val (.int .i64) .no, .dead, .dead, .dead, .dead, .dead, .dead, .dead, .dead, .dead, .dead, .dead, .dead, .dead, .dead, .dead]
abbrev laws_markBoolS_l0o : List (Ex × List Sh) := [(.exit 0, [.val (.sl .bool) (.own (some 0) .no), .val (.int .i64) .no, .dead, .dead, .dead, .dead, .dead, .dead, .dead, .dead, .dead, .dead, .dead, .dead, .dead, .dead, .dead, .dead, .dead, .dead, .dead])]
def laws_markBoolS_l0_step {β : Type} (F : Nat) (k0 : El (.sl .bool) × El (.int .i64) × Unit → Option β) (rec : El (.sl .bool) × El (.int .i64) × El (.int .i64) × Unit → Option β) (x : El (.sl .bool) × El (.int .i64) × El (.int .i64) × Unit) : Option β :=
  cond (decide (x.2.2.1 < (x.1.length : Int))) (obind (rdAt x.1 x.2.2.1) fun v1 => rec (x.1.set x.2.2.1.toNat ((x.2.1.tmod (3 : Int)) == (0 : Int)), IntKind.i64.wrap (x.2.1 + (1 : Int)), IntKind.i64.wrap (x.2.2.1 + (1 : Int)), ())) (k0 (x.1, x.2.1, ()))
def laws_markBoolS_l0 (F : Nat) : LoopFn where
  n := 21
  sh := laws_markBoolS_l0s
  outs := laws_markBoolS_l0o
  es := [.exit 0]
  step := fun rec K x => laws_markBoolS_l0_step F K.1 rec x
/-- loop.example/g01021/laws.markBoolS -/
def laws_markBoolS (F : Nat) (x0 : El (.sl .bool)) (x1 : El (.int .i64)) : Option (Outs [((.int .i64), .no)] × El (.sl .bool)) :=
  runP (laws_markBoolS_l0_step F (fun y2 => some ((y2.2.1, ()), y2.1))) none F (x0, x1, (0 : Int), ())
abbrev laws_markWantS_l0s : List Sh := [.val (.sl Tiii) (.own (some 0) .no), .val (.int .i64) .no, .dead, .dead, .dead, .val (.int .i64) .no, .dead, .dead, .dead, .dead, .dead, .dead, .dead, .dead, .dead, .dead, .dead, .dead, .dead, .dead, .dead, .dead, .dead, .dead, .dead, .dead, .dead, .dead, .dead, .dead, .dead, .dead, .dead, .dead]
abbrev laws_markWantS_l0o : List (Ex × List Sh) := [(.exit 0, [.val (.sl Tiii) (.own (some 0) .no), .val (.int .i64) .no, .dead, .dead, .dead, .dead, .dead, .dead, .dead, .dead, .dead, .dead, .dead, .dead, .dead, .dead, .dead, .dead, .dead, .dead, .dead, .dead, .dead, .dead, .dead, .dead, .dead, .dead, .dead, .dead, .dead, .dead, .dead, .dead])]
def laws_markWantS_l0_step {β : Type} (F : Nat) (k0 : El (.sl Tiii) × El (.int .i64) × Unit → Option β) (rec : El (.sl Tiii) × El (.int .i64) × El (.int .i64) × Unit → Option β) (x : El (.sl Tiii) × El (.int .i64) × El (.int .i64) × Unit) : Option β :=
  cond (decide (x.2.2.1 < (x.1.length : Int))) (obind (rdAt x.1 x.2.2.1) fun v1 => obind (rdAt (x.1.set x.2.2.1.toNat (x.2.1, v1.2)) x.2.2.1) fun v2 => obind (rdAt ((x.1.set x.2.2.1.toNat (x.2.1, v1.2)).set x.2.2.1.toNat (v2.1, (IntKind.i64.wrap (x.2.1 + (1 : Int)), v2.2.2))) x.2.2.1) fun v3 => rec (((x.1.set x.2.2.1.toNat (x.2.1, v1.2)).set x.2.2.1.toNat (v2.1, (IntKind.i64.wrap (x.2.1 + (1 : Int)), v2.2.2))).set x.2.2.1.toNat (v3.1, (v3.2.1, (IntKind.i64.wrap ((IntKind.i64.wrap (x.2.1 + (1 : Int))) + (1 : Int)), v3.2.2.2))), IntKind.i64.wrap ((IntKind.i64.wrap ((IntKind.i64.wrap (x.2.1 + (1 : Int))) + (1 : Int))) + (1 : Int)), IntKind.i64.wrap (x.2.2.1 + (1 : Int)), ())) (k0 (x.1, x.2.1, ()))
def laws_markWantS_l0 (F : Nat) : LoopFn where
  n := 34
  sh := laws_markWantS_l0s
  outs := laws_markWantS_l0o
  es := [.exit 0]
  step := fun rec K x => laws_markWantS_l0_step F K.1 rec x
/-- loop.example/g01021/laws.markWantS -/
def laws_markWantS (F : Nat) (x0 : El (.sl Tiii)) (x1 : El (.int .i64)) : Option (Outs [((.int .i64), .no)] × El (.sl Tiii)) :=
  runP (laws_markWantS_l0_step F (fun y4 => some ((y4.2.1, ()), y4.1))) none F (x0, x1, (0 : Int), ())
abbrev laws_markSourceS_l0s : List Sh := [.val (.sl Tsii) (.own (some 0) .no), .val (.int .i64) .no, .dead, .dead, .dead, .val (.int .i64) .no, .dead, .dead, .dead, .dead, .dead, .dead, .dead, .dead, .dead, .dead, .dead, .dead, .dead, .dead, .dead, .dead, .dead, .dead, .dead, .dead, .dead, .dead, .dead, .dead, .dead, .dead, .dead, .dead, .dead]
abbrev laws_markSourceS_l0o : List (Ex × List Sh) := [(.exit 0, [.val (.sl Tsii) (.own (some 0) .no), .val (.int .i64) .no, .dead, .dead, .dead, .dead, .dead, .dead, .dead, .dead, .dead, .dead, .dead, .dead, .dead, .dead, .dead, .dead, .dead, .dead, .dead, .dead, .dead, .dead, .dead, .dead, .dead, .dead, .dead, .dead, .dead, .dead, .dead, .dead, .dead])]
def laws_markSourceS_l0_step {β : Type} (F : Nat) (k0 : El (.sl Tsii) × El (.int .i64) × Unit → Option β) (rec : El (.sl Tsii) × El (.int .i64) × El (.int .i64) × Unit → Option β) (x : El (.sl Tsii) × El (.int .i64) × El (.int .i64) × Unit) : Option β :=
  cond (decide (x.2.2.1 < (x.1.length : Int))) (obind (laws_markText F x.2.1) fun r1 => obind (rdAt x.1 x.2.2.1) fun v2 => obind (rdAt (x.1.set x.2.2.1.toNat (r1.1, v2.2)) x.2.2.1) fun v3 => obind (rdAt ((x.1.set x.2.2.1.toNat (r1.1, v2.2)).set x.2.2.1.toNat (v3.1, (IntKind.i64.wrap (x.2.1 + (1 : Int)), v3.2.2))) x.2.2.1) fun v4 => rec (((x.1.set x.2.2.1.toNat (r1.1, v2.2)).set x.2.2.1.toNat (v3.1, (IntKind.i64.wrap (x.2.1 + (1 : Int)), v3.2.2))).set x.2.2.1.toNat (v4.1, (v4.2.1, (IntKind.i64.wrap ((IntKind.i64.wrap (x.2.1 + (1 : Int))) + (1 : Int)), v4.2.2.2))), IntKind.i64.wrap ((IntKind.i64.wrap ((IntKind.i64.wrap (x.2.1 + (1 : Int))) + (1 : Int))) + (1 : Int)), IntKind.i64.wrap (x.2.2.1 + (1 : Int)), ())) (k0 (x.1, x.2.1, ()))
def laws_markSourceS_l0 (F : Nat) : LoopFn where
  n := 35
  sh := laws_markSourceS_l0s
  outs := laws_markSourceS_l0o
  es := [.exit 0]
  step := fun rec K x => laws_markSourceS_l0_step F K.1 rec x
/-- loop.example/g01021/laws.markSourceS -/
def laws_markSourceS (F : Nat) (x0 : El (.sl Tsii)) (x1 : El (.int .i64)) : Option (Outs [((.int .i64), .no)] × El (.sl Tsii)) :=
  runP (laws_markSourceS_l0_step F (fun y5 => some ((y5.2.1, ()), y5.1))) none F (x0, x1, (0 : Int), ())
abbrev laws_markJobS_l0s : List Sh := [.val (.sl Tsiii) (.own (some 0) .no), .val (.int .i64) .no, .dead, .dead, .dead, .val (.int .i64) .no, .dead, .dead, .dead, .dead, .dead, .dead, .dead, .dead, .dead, .dead, .dead, .dead, .dead, .dead, .dead, .dead, .dead, .dead, .dead, .dead, .dead, .dead, .dead, .dead, .dead, .dead, .dead, .dead, .dead, .dead, .dead, .dead, .dead, .dead, .dead, .dead]
abbrev laws_markJobS_l0o : List (Ex × List Sh) := [(.exit 0, [.val (.sl Tsiii) (.own (some 0) .no), .val (.int .i64) .no, .dead, .dead, .dead, .dead, .dead, .dead, .dead, .dead, .dead, .dead, .dead, .dead, .dead, .dead, .dead, .dead, .dead, .dead, .dead, .dead, .dead, .dead, .dead, .dead, .dead, .dead, .dead, .dead, .dead, .dead, .dead, .dead, .dead, .dead, .dead, .dead, .dead, .dead, .dead, .dead])]
def laws_markJobS_l0_step {β : Type} (F : Nat) (k0 : El (.sl Tsiii) × El (.int .i64) × Unit → Option β) (rec : El (.sl Tsiii) × El (.int .i64) × El (.int .i64) × Unit → Option β) (x : El (.sl Tsiii) × El (.int .i64) × El (.int .i64) × Unit) : Option β :=
  cond (decide (x.2.2.1 < (x.1.length : Int))) (obind (laws_markText F x.2.1) fun r1 => obind (rdAt x.1 x.2.2.1) fun v2 => obind (rdAt (x.1.set x.2.2.1.toNat (r1.1, v2.2)) x.2.2.1) fun v3 => obind (rdAt ((x.1.set x.2.2.1.toNat (r1.1, v2.2)).set x.2.2.1.toNat (v3.1, (IntKind.i64.wrap (x.2.1 + (1 : Int)), v3.2.2))) x.2.2.1) fun v4 => obind (rdAt (((x.1.set x.2.2.1.toNat (r1.1, v2.2)).set x.2.2.1.toNat (v3.1, (IntKind.i64.wrap (x.2.1 + (1 : Int)), v3.2.2))).set x.2.2.1.toNat (v4.1, (v4.2.1, (IntKind.i64.wrap ((IntKind.i64.wrap (x.2.1 + (1 : Int))) + (1 : Int)), v4.2.2.2)))) x.2.2.1) fun v5 => rec ((((x.1.set x.2.2.1.toNat (r1.1, v2.2)).set x.2.2.1.toNat (v3.1, (IntKind.i64.wrap (x.2.1 + (1 : Int)), v3.2.2))).set x.2.2.1.toNat (v4.1, (v4.2.1, (IntKind.i64.wrap ((IntKind.i64.wrap (x.2.1 + (1 : Int))) + (1 : Int)), v4.2.2.2)))).set x.2.2.1.toNat (v5.1, (v5.2.1, (v5.2.2.1, (IntKind.i64.wrap ((IntKind.i64.wrap ((IntKind.i64.wrap (x.2.1 + (1 : Int))) + (1 : Int))) + (1 : Int)), v5.2.2.2.2)))), IntKind.i64.wrap ((IntKind.i64.wrap ((IntKind.i64.wrap ((IntKind.i64.wrap (x.2.1 + (1 : Int))) + (1 : Int))) + (1 : Int))) + (1 : Int)), IntKind.i64.wrap (x.2.2.1 + (1 : Int)), ())) (k0 (x.1, x.2.1, ()))
def laws_markJobS_l0 (F : Nat) : LoopFn where
  n := 42
  sh := laws_markJobS_l0s
  outs := laws_markJobS_l0o
  es := [.exit 0]
  step := fun rec K x => laws_markJobS_l0_step F K.1 rec x
/-- loop.example/g01021/laws.markJobS -/
def laws_markJobS (F : Nat) (x0 : El (.sl Tsiii)) (x1 : El (.int .i64)) : Option (Outs [((.int .i64), .no)] × El (.sl Tsiii)) :=
  runP (laws_markJobS_l0_step F (fun y6 => some ((y6.2.1, ()), y6.1))) none F (x0, x1, (0 : Int), ())
abbrev laws_markCrewS_l0s : List Sh := [.val (.sl Tsii) (.own (some 0) .no), .val (.int .i64) .no, .dead, .dead, .dead, .val (.int .i64) .no, .dead, .dead, .dead, .dead, .dead, .dead, .dead, .dead, .dead, .dead, .dead, .dead, .dead, .dead, .dead, .dead, .dead, .dead, .dead, .dead, .dead, .dead, .dead, .dead, .dead, .dead, .dead, .dead, .dead]
abbrev laws_markCrewS_l0o : List (Ex × List Sh) := [(.exit 0, [.val (.sl Tsii) (.own (some 0) .no), .val (.int .i64) .no, .dead, .dead, .dead, .dead, .dead, .dead, .dead, .dead, .dead, .dead, .dead, .dead, .dead, .dead, .dead, .dead, .dead, .dead, .dead, .dead, .dead, .dead, .dead, .dead, .dead, .dead, .dead, .dead, .dead, .dead, .dead, .dead, .dead])]
def laws_markCrewS_l0_step {β : Type} (F : Nat) (k0 : El (.sl Tsii) × El (.int .i64) × Unit → Option β) (rec : El (.sl Tsii) × El (.int .i64) × El (.int .i64) × Unit → Option β) (x : El (.sl Tsii) × El (.int .i64) × El (.int .i64) × Unit) : Option β :=
  cond (decide (x.2.2.1 < (x.1.length : Int))) (obind (laws_markText F x.2.1) fun r1 => obind (rdAt x.1 x.2.2.1) fun v2 => obind (rdAt (x.1.set x.2.2.1.toNat (r1.1, v2.2)) x.2.2.1) fun v3 => obind (rdAt ((x.1.set x.2.2.1.toNat (r1.1, v2.2)).set x.2.2.1.toNat (v3.1, (IntKind.i64.wrap (x.2.1 + (1 : Int)), v3.2.2))) x.2.2.1) fun v4 => rec (((x.1.set x.2.2.1.toNat (r1.1, v2.2)).set x.2.2.1.toNat (v3.1, (IntKind.i64.wrap (x.2.1 + (1 : Int)), v3.2.2))).set x.2.2.1.toNat (v4.1, (v4.2.1, (IntKind.i64.wrap ((IntKind.i64.wrap (x.2.1 + (1 : Int))) + (1 : Int)), v4.2.2.2))), IntKind.i64.wrap ((IntKind.i64.wrap ((IntKind.i64.wrap (x.2.1 + (1 : Int))) + (1 : Int))) + (1 : Int)), IntKind.i64.wrap (x.2.2.1 + (1 : Int)), ())) (k0 (x.1, x.2.1, ()))
def laws_markCrewS_l0 (F : Nat) : LoopFn where
  n := 35
  sh := laws_markCrewS_l0s
  outs := laws_markCrewS_l0o
  es := [.exit 0]
  step := fun rec K x => laws_markCrewS_l0_step F K.1 rec x
/-- loop.example/g01021/laws.markCrewS -/
def laws_markCrewS (F : Nat) (x0 : El (.sl Tsii)) (x1 : El (.int .i64)) : Option (Outs [((.int .i64), .no)] × El (.sl Tsii)) :=
  runP (laws_markCrewS_l0_step F (fun y5 => some ((y5.2.1, ()), y5.1))) none F (x0, x1, (0 : Int), ())
/-- loop.example/g01021/laws.markPlan -/
def laws_markPlan (F : Nat) (x0 : El Tc66acf8c) (x1 : El (.int .i64)) : Option (Outs [((.int .i64), .no)] × El Tc66acf8c) :=
  obind (laws_markPlant F x0.1 x1) fun r1 => obind (laws_markBoolS F x0.2.1 r1.1.1) fun r2 => obind (laws_markInt64S F x0.2.2.1 r2.1.1) fun r3 => obind (laws_markWantS F x0.2.2.2.1 r3.1.1) fun r4 => obind (laws_markSourceS F x0.2.2.2.2.1 r4.1.1) fun r5 => obind (laws_markJobS F x0.2.2.2.2.2.2.1 r5.1.1) fun r6 => obind (laws_markCrewS F x0.2.2.2.2.2.2.2.1 r6.1.1) fun r7 => obind (laws_markInt64S F x0.2.2.2.2.2.2.2.2.1 r7.1.1) fun r8 => some ((r8.1.1, ()), (((x0.1.1.1, (r1.2.1.2.1, x0.1.1.2.2)), (r1.2.2.1, (r1.2.2.2.1, (r1.2.2.2.2.1, (r1.2.2.2.2.2.1, (x0.1.2.2.2.2.2.1, x0.1.2.2.2.2.2.2)))))), (r2.2, (r3.2, (r4.2, (r5.2, (x0.2.2.2.2.2.1, (r6.2, (r7.2, (r8.2, ((x0.2.2.2.2.2.2.2.2.2.1.1, (x0.2.2.2.2.2.2.2.2.2.1.2.1, (x0.2.2.2.2.2.2.2.2.2.1.2.2.1, x0.2.2.2.2.2.2.2.2.2.1.2.2.2))), (x0.2.2.2.2.2.2.2.2.2.2.1, x0.2.2.2.2.2.2.2.2.2.2.2))))))))))))
abbrev laws_markProblemS_l0s : List Sh := [.val (.sl Tiss) (.own (some 0) .no), .val (.int .i64) .no, .dead, .dead, .dead, .val (.int .i64) .no, .dead, .dead, .dead, .dead, .dead, .dead, .dead, .dead, .dead, .dead, .dead, .dead, .dead, .dead, .dead, .dead, .dead, .dead, .dead, .dead, .dead, .dead, .dead, .dead, .dead, .dead, .dead, .dead, .dead, .dead]
abbrev laws_markProblemS_l0o : List (Ex × List Sh) := [(.exit 0, [.val (.sl Tiss) (.own (some 0) .no), .val (.int .i64) .no, .dead, .dead, .dead, .dead, .dead, .dead, .dead, .dead, .dead, .dead, .dead, .dead, .dead, .dead, .dead, .dead, .dead, .dead, .dead, .dead, .dead, .dead, .dead, .dead, .dead, .dead, .dead, .dead, .dead, .dead, .dead, .dead, .dead, .dead])]
def laws_markProblemS_l0_step {β : Type} (F : Nat) (k0 : El (.sl Tiss) × El (.int .i64) × Unit → Option β) (rec : El (.sl Tiss) × El (.int .i64) × El (.int .i64) × Unit → Option β) (x : El (.sl Tiss) × El (.int .i64) × El (.int .i64) × Unit) : Option β :=
  cond (decide (x.2.2.1 < (x.1.length : Int))) (obind (rdAt x.1 x.2.2.1) fun v1 => obind (laws_markText F (IntKind.i64.wrap (x.2.1 + (1 : Int)))) fun r2 => obind (rdAt (x.1.set x.2.2.1.toNat (x.2.1, v1.2)) x.2.2.1) fun v3 => obind (laws_markText F (IntKind.i64.wrap ((IntKind.i64.wrap (x.2.1 + (1 : Int))) + (1 : Int)))) fun r4 => obind (rdAt ((x.1.set x.2.2.1.toNat (x.2.1, v1.2)).set x.2.2.1.toNat (v3.1, (r2.1, v3.2.2))) x.2.2.1) fun v5 => rec (((x.1.set x.2.2.1.toNat (x.2.1, v1.2)).set x.2.2.1.toNat (v3.1, (r2.1, v3.2.2))).set x.2.2.1.toNat (v5.1, (v5.2.1, (r4.1, v5.2.2.2))), IntKind.i64.wrap ((IntKind.i64.wrap ((IntKind.i64.wrap (x.2.1 + (1 : Int))) + (1 : Int))) + (1 : Int)), IntKind.i64.wrap (x.2.2.1 + (1 : Int)), ())) (k0 (x.1, x.2.1, ()))
def laws_markProblemS_l0 (F : Nat) : LoopFn where
  n := 36
  sh := laws_markProblemS_l0s
  outs := laws_markProblemS_l0o
  es := [.exit 0]
  step := fun rec K x => laws_markProblemS_l0_step F K.1 rec x
/-- loop.example/g01021/laws.markProblemS -/
def laws_markProblemS (F : Nat) (x0 : El (.sl Tiss)) (x1 : El (.int .i64)) : Option (Outs [((.int .i64), .no)] × El (.sl Tiss)) :=
  runP (laws_markProblemS_l0_step F (fun y6 => some ((y6.2.1, ()), y6.1))) none F (x0, x1, (0 : Int), ())
abbrev laws_heldProblemS_l0s : List Sh := [.val (.sl Tiss) .no, .val (.int .i64) .no, .dead, .dead, .dead, .val (.int .i64) .no, .dead, .dead, .dead, .dead, .dead, .dead, .dead, .dead, .dead, .dead, .dead, .dead, .dead, .dead, .dead, .dead, .dead, .dead, .dead, .dead, .dead, .dead, .dead, .dead, .dead, .dead, .dead, .dead, .dead, .dead, .dead, .dead, .dead, .dead, .dead, .dead]
abbrev laws_heldProblemS_l0o : List (Ex × List Sh) := [(.ret, [.dead, .dead, .dead, .dead, .val (.int .i64) .no, .dead, .dead, .dead, .dead, .dead, .dead, .dead, .dead, .dead, .dead, .dead, .dead, .dead, .dead, .dead, .dead, .dead, .dead, .dead, .dead, .dead, .dead, .dead, .dead, .dead, .dead, .dead, .dead, .dead, .dead, .dead, .dead, .dead, .dead, .dead, .dead, .dead]), (.exit 0, [.dead, .val (.int .i64) .no, .dead, .dead, .dead, .dead, .dead, .dead, .dead, .dead, .dead, .dead, .dead, .dead, .dead, .dead, .dead, .dead, .dead, .dead, .dead, .dead, .dead, .dead, .dead, .dead, .dead, .dead, .dead, .dead, .dead, .dead, .dead, .dead, .dead, .dead, .dead, .dead, .dead, .dead, .dead, .dead])]
def laws_heldProblemS_l0_step {β : Type} (F : Nat) (k0 : El (.int .i64) × Unit → Option β) (k1 : El (.int .i64) × Unit → Option β) (rec : El (.sl Tiss) × El (.int .i64) × El (.int .i64) × Unit → Option β) (x : El (.sl Tiss) × El (.int .i64) × El (.int .i64) × Unit) : Option β :=
  cond (decide (x.2.2.1 < (x.1.length : Int))) (obind (rdAt x.1 x.2.2.1) fun v1 => cond (v1.1 != x.2.1) (k0 ((-1 : Int), ())) (obind (rdAt x.1 x.2.2.1) fun v2 => obind (laws_markText F (IntKind.i64.wrap (x.2.1 + (1 : Int)))) fun r3 => cond (!(v2.2.1.toList == r3.1.toList)) (k0 ((-1 : Int), ())) (obind (rdAt x.1 x.2.2.1) fun v4 => obind (laws_markText F (IntKind.i64.wrap ((IntKind.i64.wrap (x.2.1 + (1 : Int))) + (1 : Int)))) fun r5 => cond (!(v4.2.2.1.toList == r5.1.toList)) (k0 ((-1 : Int), ())) (rec (x.1, IntKind.i64.wrap ((IntKind.i64.wrap ((IntKind.i64.wrap (x.2.1 + (1 : Int))) + (1 : Int))) + (1 : Int)), IntKind.i64.wrap (x.2.2.1 + (1 : Int)), ()))))) (k1 (x.2.1, ()))
def laws_heldProblemS_l0 (F : Nat) : LoopFn where
  n := 42
  sh := laws_heldProblemS_l0s
  outs := laws_heldProblemS_l0o
  es := [.ret, .exit 0]
  step := fun rec K x => laws_heldProblemS_l0_step F K.1 K.2.1 rec x
/-- loop.example/g01021/laws.heldProblemS -/
def laws_heldProblemS (F : Nat) (x0 : El (.sl Tiss)) (x1 : El (.int .i64)) : Option (Outs [((.int .i64), .no)]) :=
  runP (laws_heldProblemS_l0_step F (fun y6 => some (y6.1, ())) (fun y6 => some (y6.1, ()))) none F (x0, x1, (0 : Int), ())
/-- loop.example/g01021/laws.FnExactLoadProblems -/
def laws_FnExactLoadProblems (F : Nat) (x0 : El Tc66acf8c) : Option (Outs [(.bool, .no)]) :=
  obind (laws_szPlan F x0 (1048576 : Int)) fun r1 => cond (decide (r1.1 < (0 : Int))) (some (true, ())) (obind (laws_toPlan F x0) fun r2 => obind (spec_LoadProblems F r2.1) fun r3 => obind (laws_toPlan F x0) fun r4 => obind (impl_LoadProblems F r4.1) fun r5 => obind (laws_eqProblemS F r5.1 r3.1) fun r6 => cond (!r6.1) (some (false, ())) (cond (r5.2.1 != r3.2.1) (some (false, ())) (obind (laws_toPlan F x0) fun r7 => obind (laws_eqPlan F r4.1 r7.1) fun r8 => cond (!r8.1) (some (false, ())) (obind (laws_markPlan F r4.1 (1 : Int)) fun r9 => cond (decide (r9.1.1 < (0 : Int))) (some (false, ())) (obind (laws_eqProblemS F r5.1 r3.1) fun r10 => cond (!r10.1) (some (false, ())) (cond (r5.2.1 != r3.2.1) (some (false, ())) (obind (laws_markProblemS F r5.1 (1 : Int)) fun r11 => obind (laws_heldProblemS F r11.2 (1 : Int)) fun r12 => cond (decide (r12.1 < (0 : Int))) (some (false, ())) (cond (r12.1 != r11.1.1) (some (false, ())) (obind (laws_toPlan F x0) fun r13 => obind (impl_LoadProblems F r13.1) fun r14 => obind (laws_eqProblemS F r14.1 r3.1) fun r15 => cond (!r15.1) (some (false, ())) (cond (r14.2.1 != r3.2.1) (some (false, ())) (obind (laws_heldProblemS F r11.2 (1 : Int)) fun r16 => cond (decide (r16.1 < (0 : Int))) (some (false, ())) (cond (r16.1 != r11.1.1) (some (false, ())) (some (true, ()))))))))))))))
end Go.Ev.Z
