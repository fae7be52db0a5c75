/- A part of the proof: lemmas that the law's theorem uses; their conditions stand in each theorem. -/
import Derived.Test.YtaifdjmejglkgaaGreatDoorEvThree
namespace Go.Ev.Z
set_option maxRecDepth 100000
abbrev Tsss : Ty := (.prod .str (.prod .str (.prod .str .unit)))
abbrev TsiSSi : Ty := (.prod .str (.prod (.int .i64) (.prod (.sl (.sl (.int .i64))) .unit)))
abbrev Tsiii : Ty := (.prod .str (.prod (.int .i64) (.prod (.int .i64) (.prod (.int .i64) .unit))))
abbrev Tisiii : Ty := (.prod (.int .i64) Tsiii)
abbrev Tsiiii : Ty := (.prod .str (.prod (.int .i64) (.prod (.int .i64) (.prod (.int .i64) (.prod (.int .i64) .unit)))))
abbrev Tsiiiiii : Ty := (.prod .str (.prod (.int .i64) (.prod (.int .i64) (.prod (.int .i64) (.prod (.int .i64) (.prod (.int .i64) (.prod (.int .i64) .unit)))))))
abbrev TiSqsiiiiiip : Ty := (.prod (.int .i64) (.prod (.sl Tsiiiiii) .unit))
abbrev T5d55a700 : Ty := (.prod TiSqsiiiiiip (.prod (.sl (.int .i64)) (.prod (.sl (.int .i64)) (.prod (.sl TsiSSi) (.prod (.sl Tsiii) (.prod (.sl Tsiiii) (.prod (.sl Tsiiii) (.prod (.sl Tisiii) .unit))))))))
def tab : List (Nat × Ty × Nat) := [(2, (.int .i64), 0), (3, (.int .i64), 0), (4, .bool, 0), (5, (.int .u8), 0), (9, .str, 0), (22, (.sl Tsss), 48), (24, (.sl Tsiiiiii), 64), (26, TiSqsiiiiiip, 0), (29, (.sl Tsss), 48), (39, (.sl (.int .i64)), 8), (48, (.sl .str), 16), (51, (.sl TsiSSi), 48), (52, (.sl Tsiii), 40), (53, (.sl Tsiiii), 48), (54, (.sl Tsiiii), 48), (55, (.sl Tisiii), 48), (57, T5d55a700, 0), (66, Tsss, 0), (69, Tsss, 0), (71, Tsiiiiii, 0), (89, (.sl (.int .i64)), 8), (111, (.ptr Tsss), 0), (117, (.ptr Tsiiiiii), 0), (125, (.sl (.int .u8)), 1), (128, (.sl (.sl (.int .i64))), 24), (153, TsiSSi, 0), (155, Tsiii, 0), (157, Tsiiii, 0), (159, Tsiiii, 0), (161, Tisiii, 0)]
/-- loop.example/g01021/laws.szBlock -/
def laws_szBlock (F : Nat) (x0 : El Tsss) (x1 : El (.int .i64)) : Option (Outs [((.int .i64), .no)]) :=
  cond (decide ((IntKind.i64.wrap (x1 - (x0.1.size : Int))) < (0 : Int))) (some ((-1 : Int), ())) (cond (decide ((IntKind.i64.wrap ((IntKind.i64.wrap (x1 - (x0.1.size : Int))) - (x0.2.1.size : Int))) < (0 : Int))) (some ((-1 : Int), ())) (cond (decide ((IntKind.i64.wrap ((IntKind.i64.wrap ((IntKind.i64.wrap (x1 - (x0.1.size : Int))) - (x0.2.1.size : Int))) - (x0.2.2.1.size : Int))) < (0 : Int))) (some ((-1 : Int), ())) (some (IntKind.i64.wrap ((IntKind.i64.wrap ((IntKind.i64.wrap (x1 - (x0.1.size : Int))) - (x0.2.1.size : Int))) - (x0.2.2.1.size : Int)), ()))))
abbrev laws_szBlockS_l0s : List Sh := [.val (.sl Tsss) .no, .val (.int .i64) .no, .dead, .dead, .dead, .val (.int .i64) .no, .dead, .dead, .dead, .dead, .dead, .dead, .dead, .dead, .dead, .dead, .dead, .dead, .dead, .dead, .dead, .dead, .dead, .dead, .dead, .dead, .dead]
abbrev laws_szBlockS_l0o : List (Ex × List Sh) := [(.ret, [.dead, .dead, .dead, .dead, .val (.int .i64) .no, .dead, .dead, .dead, .dead, .dead, .dead, .dead, .dead, .dead, .dead, .dead, .dead, .dead, .dead, .dead, .dead, .dead, .dead, .dead, .dead, .dead, .dead]), (.exit 0, [.dead, .val (.int .i64) .no, .dead, .dead, .dead, .dead, .dead, .dead, .dead, .dead, .dead, .dead, .dead, .dead, .dead, .dead, .dead, .dead, .dead, .dead, .dead, .dead, .dead, .dead, .dead, .dead, .dead])]
def laws_szBlockS_l0_step {β : Type} (F : Nat) (k0 : El (.int .i64) × Unit → Option β) (k1 : El (.int .i64) × Unit → Option β) (rec : El (.sl Tsss) × El (.int .i64) × El (.int .i64) × Unit → Option β) (x : El (.sl Tsss) × El (.int .i64) × El (.int .i64) × Unit) : Option β :=
  cond (decide (x.2.2.1 < (x.1.length : Int))) (obind (rdAt x.1 x.2.2.1) fun v1 => obind (laws_szBlock F v1 x.2.1) fun r2 => cond (decide (r2.1 < (0 : Int))) (k0 ((-1 : Int), ())) (rec (x.1, r2.1, IntKind.i64.wrap (x.2.2.1 + (1 : Int)), ()))) (k1 (x.2.1, ()))
def laws_szBlockS_l0 (F : Nat) : LoopFn where
  n := 27
  sh := laws_szBlockS_l0s
  outs := laws_szBlockS_l0o
  es := [.ret, .exit 0]
  step := fun rec K x => laws_szBlockS_l0_step F K.1 K.2.1 rec x
/-- loop.example/g01021/laws.szBlockS -/
def laws_szBlockS (F : Nat) (x0 : El (.sl Tsss)) (x1 : El (.int .i64)) : Option (Outs [((.int .i64), .no)]) :=
  cond (decide ((IntKind.i64.wrap (x1 - (x0.length : Int))) < (0 : Int))) (some ((-1 : Int), ())) (runP (laws_szBlockS_l0_step F (fun y3 => some (y3.1, ())) (fun y3 => some (y3.1, ()))) none F (x0, IntKind.i64.wrap (x1 - (x0.length : Int)), (0 : Int), ()))
/-- loop.example/g01021/laws.toBlock -/
def laws_toBlock (F : Nat) (x0 : El Tsss) : Option (Outs [(Tsss, (.pr .no (.pr .no (.pr .no .no))))]) :=
  some ((x0.1, (x0.2.1, (x0.2.2.1, ()))), ())
abbrev laws_toBlockS_l0s : List Sh := [.val (.sl Tsss) .no, .dead, .dead, .val (.sl Tsss) (.own none .no), .val (.int .i64) .no, .dead, .dead, .dead, .dead, .dead, .dead, .dead, .dead, .dead, .dead, .dead, .dead, .dead, .dead, .dead, .dead, .dead, .dead]
abbrev laws_toBlockS_l0o : List (Ex × List Sh) := [(.exit 0, [.dead, .dead, .dead, .val (.sl Tsss) (.own none .no), .dead, .dead, .dead, .dead, .dead, .dead, .dead, .dead, .dead, .dead, .dead, .dead, .dead, .dead, .dead, .dead, .dead, .dead, .dead])]
def laws_toBlockS_l0_step {β : Type} (F : Nat) (k0 : El (.sl Tsss) × Unit → Option β) (rec : El (.sl Tsss) × El (.sl Tsss) × El (.int .i64) × Unit → Option β) (x : El (.sl Tsss) × El (.sl Tsss) × El (.int .i64) × Unit) : Option β :=
  cond (decide (x.2.2.1 < (x.1.length : Int))) (obind (rdAt x.1 x.2.2.1) fun v1 => obind (laws_toBlock F v1) fun r2 => obind (rdAt x.2.1 x.2.2.1) fun v3 => rec (x.1, x.2.1.set x.2.2.1.toNat r2.1, IntKind.i64.wrap (x.2.2.1 + (1 : Int)), ())) (k0 (x.2.1, ()))
def laws_toBlockS_l0 (F : Nat) : LoopFn where
  n := 23
  sh := laws_toBlockS_l0s
  outs := laws_toBlockS_l0o
  es := [.exit 0]
  step := fun rec K x => laws_toBlockS_l0_step F K.1 rec x
/-- loop.example/g01021/laws.toBlockS -/
def laws_toBlockS (F : Nat) (x0 : El (.sl Tsss)) : Option (Outs [((.sl Tsss), (.own none (.pr .no (.pr .no (.pr .no .no)))))]) :=
  guardB (decide ((0 : Int) ≤ (x0.length : Int))) (guardB (decide ((x0.length : Int) ≤ (x0.length : Int))) (guardB (decide ((x0.length : Int) * (48 : Int) ≤ 281474976710656)) (guardB (decide ((x0.length : Int) ≤ 9223372036854775807)) (runP (laws_toBlockS_l0_step F (fun y4 => some (y4.1, ()))) none F (x0, List.replicate (x0.length : Int).toNat ((⟨#[]⟩ : ByteArray), ((⟨#[]⟩ : ByteArray), ((⟨#[]⟩ : ByteArray), ()))), (0 : Int), ())))))
/-- loop.example/g01021/spec.l01Small -/
def spec_l01Small (F : Nat) (x0 : El (.int .u8)) : Option (Outs [(.bool, .no)]) :=
  cond (decide (x0 ≥ (97 : Int))) (some (decide (x0 ≤ (122 : Int)), ())) (some (false, ()))
/-- loop.example/g01021/spec.l01Digit -/
def spec_l01Digit (F : Nat) (x0 : El (.int .u8)) : Option (Outs [(.bool, .no)]) :=
  cond (decide (x0 ≥ (48 : Int))) (some (decide (x0 ≤ (57 : Int)), ())) (some (false, ()))
abbrev spec_l01Name_l0s : List Sh := [.val .str .no, .dead, .dead, .val (.int .i64) .no, .dead, .dead, .dead, .dead, .dead, .dead, .dead, .dead, .dead, .dead, .dead, .dead, .dead, .dead, .dead, .dead, .dead, .dead, .dead, .dead, .dead, .dead, .dead, .dead, .dead, .dead, .dead, .dead, .dead, .dead, .dead]
abbrev spec_l01Name_l0o : List (Ex × List Sh) := [(.ret, [.dead, .dead, .val .bool .no, .dead, .dead, .dead, .dead, .dead, .dead, .dead, .dead, .dead, .dead, .dead, .dead, .dead, .dead, .dead, .dead, .dead, .dead, .dead, .dead, .dead, .dead, .dead, .dead, .dead, .dead, .dead, .dead, .dead, .dead, .dead, .dead]), (.exit 0, [.dead, .dead, .dead, .dead, .dead, .dead, .dead, .dead, .dead, .dead, .dead, .dead, .dead, .dead, .dead, .dead, .dead, .dead, .dead, .dead, .dead, .dead, .dead, .dead, .dead, .dead, .dead, .dead, .dead, .dead, .dead, .dead, .dead, .dead, .dead])]
def spec_l01Name_l0_step {β : Type} (F : Nat) (k0 : El .bool × Unit → Option β) (k1 : Unit → Option β) (rec : El .str × El (.int .i64) × Unit → Option β) (x : El .str × El (.int .i64) × Unit) : Option β :=
  cond (decide (x.2.1 < (x.1.size : Int))) (obind (btAt x.1 x.2.1) fun v3 => obind (spec_l01Small F v3) fun r4 => cond (!r4.1) (obind (btAt x.1 x.2.1) fun v5 => obind (spec_l01Digit F v5) fun r6 => cond (!r6.1) (k0 (false, ())) (rec (x.1, IntKind.i64.wrap (x.2.1 + (1 : Int)), ()))) (rec (x.1, IntKind.i64.wrap (x.2.1 + (1 : Int)), ()))) (k1 (()))
def spec_l01Name_l0 (F : Nat) : LoopFn where
  n := 35
  sh := spec_l01Name_l0s
  outs := spec_l01Name_l0o
  es := [.ret, .exit 0]
  step := fun rec K x => spec_l01Name_l0_step F K.1 K.2.1 rec x
/-- loop.example/g01021/spec.l01Name -/
def spec_l01Name (F : Nat) (x0 : El .str) : Option (Outs [(.bool, .no)]) :=
  cond (x0.toList == (⟨#[]⟩ : ByteArray).toList) (some (false, ())) (cond (decide ((x0.size : Int) > (10 : Int))) (some (false, ())) (obind (btAt x0 (0 : Int)) fun v1 => obind (spec_l01Small F v1) fun r2 => cond (!r2.1) (some (false, ())) (runP (spec_l01Name_l0_step F (fun y7 => some (y7.1, ())) (fun y7 => some (true, ()))) none F (x0, (0 : Int), ()))))
abbrev spec_l29One_l0s : List Sh := [.val (.ptr Tsss) .no, .dead, .dead, .val (.int .i64) .no, .dead, .dead, .dead, .dead, .dead, .dead, .dead, .dead, .dead, .dead, .dead, .dead, .dead, .dead, .dead, .dead, .dead, .dead, .dead, .dead, .dead, .dead, .dead, .dead, .dead, .dead, .dead, .dead, .dead, .dead, .dead, .dead, .dead, .dead, .dead, .dead]
abbrev spec_l29One_l0o : List (Ex × List Sh) := [(.ret, [.dead, .dead, .val .bool .no, .dead, .dead, .dead, .dead, .dead, .dead, .dead, .dead, .dead, .dead, .dead, .dead, .dead, .dead, .dead, .dead, .dead, .dead, .dead, .dead, .dead, .dead, .dead, .dead, .dead, .dead, .dead, .dead, .dead, .dead, .dead, .dead, .dead, .dead, .dead, .dead, .dead]), (.exit 0, [.val (.ptr Tsss) .no, .dead, .dead, .dead, .dead, .dead, .dead, .dead, .dead, .dead, .dead, .dead, .dead, .dead, .dead, .dead, .dead, .dead, .dead, .dead, .dead, .dead, .dead, .dead, .dead, .dead, .dead, .dead, .dead, .dead, .dead, .dead, .dead, .dead, .dead, .dead, .dead, .dead, .dead, .dead])]
def spec_l29One_l0_step {β : Type} (F : Nat) (k0 : El .bool × Unit → Option β) (k1 : El (.ptr Tsss) × Unit → Option β) (rec : El (.ptr Tsss) × El (.int .i64) × Unit → Option β) (x : El (.ptr Tsss) × El (.int .i64) × Unit) : Option β :=
  cond (decide (x.2.1 < (x.1.2.2.1.size : Int))) (obind (btAt x.1.2.2.1 x.2.1) fun v1 => cond (v1 == (10 : Int)) (k0 (false, ())) (rec (x.1, IntKind.i64.wrap (x.2.1 + (1 : Int)), ()))) (k1 (x.1, ()))
def spec_l29One_l0 (F : Nat) : LoopFn where
  n := 40
  sh := spec_l29One_l0s
  outs := spec_l29One_l0o
  es := [.ret, .exit 0]
  step := fun rec K x => spec_l29One_l0_step F K.1 K.2.1 rec x
/-- loop.example/g01021/spec.l29One -/
def spec_l29One (F : Nat) (x0 : El (.ptr Tsss)) : Option (Outs [(.bool, .no)]) :=
  runP (spec_l29One_l0_step F (fun y2 => some (y2.1, ())) (fun y2 => obind (spec_l01Name F y2.1.1) fun r3 => cond r3.1 (obind (spec_l01Name F y2.1.2.1) fun r4 => cond r4.1 (some (decide ((y2.1.2.2.1.size : Int) ≤ (400 : Int)), ())) (some (false, ()))) (some (false, ())))) none F (x0, (0 : Int), ())
/-- loop.example/g01021/spec.l29Before -/
def spec_l29Before (F : Nat) (x0 : El (.ptr Tsss)) (x1 : El (.ptr Tsss)) : Option (Outs [(.bool, .no)]) :=
  cond (Op.bytesLess x0.1.toList x1.1.toList) (some (true, ())) (cond (x0.1.toList == x1.1.toList) (some (Op.bytesLess x0.2.1.toList x1.2.1.toList, ())) (some (false, ())))
abbrev spec_l29Ok_l0s : List Sh := [.val (.sl Tsss) .no, .dead, .dead, .val (.int .i64) .no, .dead, .dead, .dead, .dead, .dead, .dead, .dead, .dead, .dead, .dead, .dead, .dead, .dead, .dead, .dead, .dead, .dead, .dead, .dead, .dead, .dead, .dead, .dead, .dead, .dead, .dead, .dead, .dead, .dead]
abbrev spec_l29Ok_l0o : List (Ex × List Sh) := [(.ret, [.dead, .dead, .val .bool .no, .dead, .dead, .dead, .dead, .dead, .dead, .dead, .dead, .dead, .dead, .dead, .dead, .dead, .dead, .dead, .dead, .dead, .dead, .dead, .dead, .dead, .dead, .dead, .dead, .dead, .dead, .dead, .dead, .dead, .dead]), (.exit 0, [.val (.sl Tsss) .no, .dead, .dead, .dead, .dead, .dead, .dead, .dead, .dead, .dead, .dead, .dead, .dead, .dead, .dead, .dead, .dead, .dead, .dead, .dead, .dead, .dead, .dead, .dead, .dead, .dead, .dead, .dead, .dead, .dead, .dead, .dead, .dead])]
def spec_l29Ok_l0_step {β : Type} (F : Nat) (k0 : El .bool × Unit → Option β) (k1 : El (.sl Tsss) × Unit → Option β) (rec : El (.sl Tsss) × El (.int .i64) × Unit → Option β) (x : El (.sl Tsss) × El (.int .i64) × Unit) : Option β :=
  cond (decide (x.2.1 < (x.1.length : Int))) (obind (rdAt x.1 x.2.1) fun v1 => obind (spec_l29One F v1) fun r2 => cond (!r2.1) (k0 (false, ())) (cond (decide (x.2.1 > (0 : Int))) (obind (rdAt x.1 (IntKind.i64.wrap (x.2.1 - (1 : Int)))) fun v3 => obind (rdAt x.1 x.2.1) fun v4 => obind (spec_l29Before F v3 v4) fun r5 => cond (!r5.1) (k0 (false, ())) (rec (x.1, IntKind.i64.wrap (x.2.1 + (1 : Int)), ()))) (rec (x.1, IntKind.i64.wrap (x.2.1 + (1 : Int)), ())))) (k1 (x.1, ()))
def spec_l29Ok_l0 (F : Nat) : LoopFn where
  n := 33
  sh := spec_l29Ok_l0s
  outs := spec_l29Ok_l0o
  es := [.ret, .exit 0]
  step := fun rec K x => spec_l29Ok_l0_step F K.1 K.2.1 rec x
/-- loop.example/g01021/spec.l29Ok -/
def spec_l29Ok (F : Nat) (x0 : El (.sl Tsss)) : Option (Outs [(.bool, .no)]) :=
  runP (spec_l29Ok_l0_step F (fun y6 => some (y6.1, ())) (fun y6 => some (decide ((y6.1.length : Int) ≤ (32 : Int)), ()))) none F (x0, (0 : Int), ())
/-- loop.example/g01021/spec.l00In -/
def spec_l00In (F : Nat) (x0 : El (.int .i64)) (x1 : El (.int .i64)) (x2 : El (.int .i64)) : Option (Outs [(.bool, .no)]) :=
  cond (decide (x0 ≥ x1)) (some (decide (x0 ≤ x2), ())) (some (false, ()))
abbrev spec_l01Split_l0s : List Sh := [.val .str .no, .val (.int .u8) .no, .dead, .dead, .dead, .val (.sl .str) (.own none .no), .val (.int .i64) .no, .val (.int .i64) .no, .dead, .dead, .dead, .dead, .dead, .dead, .dead, .dead, .dead, .dead, .dead, .dead, .dead, .dead, .dead, .dead, .dead, .dead, .dead, .dead, .dead, .dead, .dead, .dead, .dead, .dead, .dead]
abbrev spec_l01Split_l0o : List (Ex × List Sh) := [(.exit 0, [.val .str .no, .dead, .dead, .dead, .dead, .val (.sl .str) (.own none .no), .val (.int .i64) .no, .dead, .dead, .dead, .dead, .dead, .dead, .dead, .dead, .dead, .dead, .dead, .dead, .dead, .dead, .dead, .dead, .dead, .dead, .dead, .dead, .dead, .dead, .dead, .dead, .dead, .dead, .dead, .dead])]
def spec_l01Split_l0_step {β : Type} (F : Nat) (k0 : El .str × El (.sl .str) × El (.int .i64) × Unit → Option β) (rec : El .str × El (.int .u8) × El (.sl .str) × El (.int .i64) × El (.int .i64) × Unit → Option β) (x : El .str × El (.int .u8) × El (.sl .str) × El (.int .i64) × El (.int .i64) × Unit) : Option β :=
  cond (decide (x.2.2.2.2.1 < (x.1.size : Int))) (obind (btAt x.1 x.2.2.2.2.1) fun v1 => cond (v1 == x.2.1) (guardB (decide ((0 : Int) ≤ x.2.2.2.1)) (guardB (decide (x.2.2.2.1 ≤ x.2.2.2.2.1)) (guardB (decide (x.2.2.2.2.1 ≤ (x.1.size : Int))) (guardB (decide ((x.2.2.1.length + ([x.1.extract x.2.2.2.1.toNat x.2.2.2.2.1.toNat]).length) * 16 ≤ 140737488355328)) (rec (x.1, x.2.1, x.2.2.1 ++ ([x.1.extract x.2.2.2.1.toNat x.2.2.2.2.1.toNat]), IntKind.i64.wrap (x.2.2.2.2.1 + (1 : Int)), IntKind.i64.wrap (x.2.2.2.2.1 + (1 : Int)), ())))))) (rec (x.1, x.2.1, x.2.2.1, x.2.2.2.1, IntKind.i64.wrap (x.2.2.2.2.1 + (1 : Int)), ()))) (k0 (x.1, x.2.2.1, x.2.2.2.1, ()))
def spec_l01Split_l0 (F : Nat) : LoopFn where
  n := 35
  sh := spec_l01Split_l0s
  outs := spec_l01Split_l0o
  es := [.exit 0]
  step := fun rec K x => spec_l01Split_l0_step F K.1 rec x
/-- loop.example/g01021/spec.l01Split -/
def spec_l01Split (F : Nat) (x0 : El .str) (x1 : El (.int .u8)) : Option (Outs [((.sl .str), (.own none .no))]) :=
  runP (spec_l01Split_l0_step F (fun y2 => guardB (decide ((0 : Int) ≤ y2.2.2.1)) (guardB (decide (y2.2.2.1 ≤ (y2.1.size : Int))) (guardB (decide ((y2.2.1.length + ([y2.1.extract y2.2.2.1.toNat (y2.1.size : Int).toNat]).length) * 16 ≤ 140737488355328)) (some (y2.2.1 ++ ([y2.1.extract y2.2.2.1.toNat (y2.1.size : Int).toNat]), ())))))) none F (x0, x1, [], (0 : Int), (0 : Int), ())
abbrev spec_l01Number_l0s : List Sh := [.val .str .no, .dead, .dead, .dead, .val (.int .i64) .no, .val (.int .i64) .no, .val (.int .i64) .no, .dead, .dead, .dead, .dead, .dead, .dead, .dead, .dead, .dead, .dead, .dead, .dead, .dead, .dead, .dead, .dead, .dead, .dead, .dead, .dead, .dead, .dead, .dead, .dead, .dead, .dead, .dead, .dead, .dead, .dead, .dead, .dead, .dead, .dead, .dead, .dead, .dead, .dead, .dead, .dead, .dead, .dead, .dead, .dead, .dead, .dead, .dead, .dead, .dead, .dead, .dead, .dead, .dead, .dead, .dead]
abbrev spec_l01Number_l0o : List (Ex × List Sh) := [(.ret, [.dead, .dead, .val (.int .i64) .no, .val .bool .no, .dead, .dead, .dead, .dead, .dead, .dead, .dead, .dead, .dead, .dead, .dead, .dead, .dead, .dead, .dead, .dead, .dead, .dead, .dead, .dead, .dead, .dead, .dead, .dead, .dead, .dead, .dead, .dead, .dead, .dead, .dead, .dead, .dead, .dead, .dead, .dead, .dead, .dead, .dead, .dead, .dead, .dead, .dead, .dead, .dead, .dead, .dead, .dead, .dead, .dead, .dead, .dead, .dead, .dead, .dead, .dead, .dead, .dead]), (.exit 0, [.dead, .dead, .dead, .dead, .val (.int .i64) .no, .val (.int .i64) .no, .dead, .dead, .dead, .dead, .dead, .dead, .dead, .dead, .dead, .dead, .dead, .dead, .dead, .dead, .dead, .dead, .dead, .dead, .dead, .dead, .dead, .dead, .dead, .dead, .dead, .dead, .dead, .dead, .dead, .dead, .dead, .dead, .dead, .dead, .dead, .dead, .dead, .dead, .dead, .dead, .dead, .dead, .dead, .dead, .dead, .dead, .dead, .dead, .dead, .dead, .dead, .dead, .dead, .dead, .dead, .dead])]
def spec_l01Number_l0_step {β : Type} (F : Nat) (k0 : El (.int .i64) × El .bool × Unit → Option β) (k1 : El (.int .i64) × El (.int .i64) × Unit → Option β) (rec : El .str × El (.int .i64) × El (.int .i64) × El (.int .i64) × Unit → Option β) (x : El .str × El (.int .i64) × El (.int .i64) × El (.int .i64) × Unit) : Option β :=
  cond (decide (x.2.2.2.1 < (x.1.size : Int))) (obind (btAt x.1 x.2.2.2.1) fun v3 => obind (spec_l01Digit F v3) fun r4 => cond (!r4.1) (k0 ((0 : Int), false, ())) (obind (btAt x.1 x.2.2.2.1) fun v5 => rec (x.1, x.2.1, IntKind.i64.wrap ((IntKind.i64.wrap ((10 : Int) * x.2.2.1)) + (IntKind.i64.wrap (IntKind.u8.wrap (v5 - (48 : Int))))), IntKind.i64.wrap (x.2.2.2.1 + (1 : Int)), ()))) (k1 (x.2.1, x.2.2.1, ()))
def spec_l01Number_l0 (F : Nat) : LoopFn where
  n := 62
  sh := spec_l01Number_l0s
  outs := spec_l01Number_l0o
  es := [.ret, .exit 0]
  step := fun rec K x => spec_l01Number_l0_step F K.1 K.2.1 rec x
/-- loop.example/g01021/spec.l01Number -/
def spec_l01Number (F : Nat) (x0 : El .str) : Option (Outs [((.int .i64), .no), (.bool, .no)]) :=
  cond (decide ((x0.size : Int) > (0 : Int))) (obind (btAt x0 (0 : Int)) fun v1 => cond (v1 == (45 : Int)) (cond ((x0.size : Int) == (1 : Int)) (some ((0 : Int), false, ())) (cond (decide ((IntKind.i64.wrap ((x0.size : Int) - (1 : Int))) > (18 : Int))) (some ((0 : Int), false, ())) (obind (btAt x0 (1 : Int)) fun v2 => cond (v2 == (48 : Int)) (cond (decide ((x0.size : Int) > (1 : Int))) (some ((0 : Int), false, ())) (runP (spec_l01Number_l0_step F (fun y6 => some (y6.1, y6.2.1, ())) (fun y6 => cond (y6.1 == (1 : Int)) (some (IntKind.i64.wrap (0 - y6.2.1), true, ())) (some (y6.2.1, true, ())))) none F (x0, (1 : Int), (0 : Int), (1 : Int), ()))) (runP (spec_l01Number_l0_step F (fun y7 => some (y7.1, y7.2.1, ())) (fun y7 => cond (y7.1 == (1 : Int)) (some (IntKind.i64.wrap (0 - y7.2.1), true, ())) (some (y7.2.1, true, ())))) none F (x0, (1 : Int), (0 : Int), (1 : Int), ()))))) (cond ((x0.size : Int) == (0 : Int)) (some ((0 : Int), false, ())) (cond (decide ((IntKind.i64.wrap ((x0.size : Int) - (0 : Int))) > (18 : Int))) (some ((0 : Int), false, ())) (obind (btAt x0 (0 : Int)) fun v8 => cond (v8 == (48 : Int)) (cond (decide ((x0.size : Int) > (1 : Int))) (some ((0 : Int), false, ())) (runP (spec_l01Number_l0_step F (fun y9 => some (y9.1, y9.2.1, ())) (fun y9 => cond (y9.1 == (1 : Int)) (some (IntKind.i64.wrap (0 - y9.2.1), true, ())) (some (y9.2.1, true, ())))) none F (x0, (0 : Int), (0 : Int), (0 : Int), ()))) (runP (spec_l01Number_l0_step F (fun y10 => some (y10.1, y10.2.1, ())) (fun y10 => cond (y10.1 == (1 : Int)) (some (IntKind.i64.wrap (0 - y10.2.1), true, ())) (some (y10.2.1, true, ())))) none F (x0, (0 : Int), (0 : Int), (0 : Int), ())))))) (cond ((x0.size : Int) == (0 : Int)) (some ((0 : Int), false, ())) (cond (decide ((IntKind.i64.wrap ((x0.size : Int) - (0 : Int))) > (18 : Int))) (some ((0 : Int), false, ())) (obind (btAt x0 (0 : Int)) fun v11 => cond (v11 == (48 : Int)) (cond (decide ((x0.size : Int) > (1 : Int))) (some ((0 : Int), false, ())) (runP (spec_l01Number_l0_step F (fun y12 => some (y12.1, y12.2.1, ())) (fun y12 => cond (y12.1 == (1 : Int)) (some (IntKind.i64.wrap (0 - y12.2.1), true, ())) (some (y12.2.1, true, ())))) none F (x0, (0 : Int), (0 : Int), (0 : Int), ()))) (runP (spec_l01Number_l0_step F (fun y13 => some (y13.1, y13.2.1, ())) (fun y13 => cond (y13.1 == (1 : Int)) (some (IntKind.i64.wrap (0 - y13.2.1), true, ())) (some (y13.2.1, true, ())))) none F (x0, (0 : Int), (0 : Int), (0 : Int), ())))))
abbrev spec_ReadList_l0s : List Sh := [.dead, .dead, .dead, .dead, .val (.sl .str) (.own none .no), .val (.sl (.int .i64)) (.own none .no), .val (.int .i64) .no, .dead, .dead, .dead, .dead, .dead, .dead, .dead, .dead, .dead, .dead, .dead, .dead, .dead, .dead, .dead, .dead, .dead, .dead, .dead, .dead, .dead, .dead, .dead, .dead, .dead, .dead, .dead, .dead, .dead, .dead, .dead, .dead, .dead, .dead, .dead, .dead, .dead]
abbrev spec_ReadList_l0o : List (Ex × List Sh) := [(.ret, [.dead, .dead, .val (.sl (.int .i64)) (.own none .no), .val .bool .no, .dead, .dead, .dead, .dead, .dead, .dead, .dead, .dead, .dead, .dead, .dead, .dead, .dead, .dead, .dead, .dead, .dead, .dead, .dead, .dead, .dead, .dead, .dead, .dead, .dead, .dead, .dead, .dead, .dead, .dead, .dead, .dead, .dead, .dead, .dead, .dead, .dead, .dead, .dead, .dead]), (.exit 0, [.dead, .dead, .dead, .dead, .dead, .val (.sl (.int .i64)) (.own none .no), .dead, .dead, .dead, .dead, .dead, .dead, .dead, .dead, .dead, .dead, .dead, .dead, .dead, .dead, .dead, .dead, .dead, .dead, .dead, .dead, .dead, .dead, .dead, .dead, .dead, .dead, .dead, .dead, .dead, .dead, .dead, .dead, .dead, .dead, .dead, .dead, .dead, .dead])]
def spec_ReadList_l0_step {β : Type} (F : Nat) (k0 : El (.sl (.int .i64)) × El .bool × Unit → Option β) (k1 : El (.sl (.int .i64)) × Unit → Option β) (rec : El (.sl .str) × El (.sl (.int .i64)) × El (.int .i64) × Unit → Option β) (x : El (.sl .str) × El (.sl (.int .i64)) × El (.int .i64) × Unit) : Option β :=
  cond (decide (x.2.2.1 < (x.1.length : Int))) (obind (rdAt x.1 x.2.2.1) fun v2 => obind (spec_l01Number F v2) fun r3 => cond (!r3.2.1) (k0 ([], false, ())) (obind (spec_l00In F r3.1 (-1000000000000 : Int) (1000000000000 : Int)) fun r4 => cond (!r4.1) (k0 ([], false, ())) (guardB (decide ((x.2.1.length + ([r3.1]).length) * 8 ≤ 140737488355328)) (rec (x.1, x.2.1 ++ ([r3.1]), IntKind.i64.wrap (x.2.2.1 + (1 : Int)), ()))))) (k1 (x.2.1, ()))
def spec_ReadList_l0 (F : Nat) : LoopFn where
  n := 44
  sh := spec_ReadList_l0s
  outs := spec_ReadList_l0o
  es := [.ret, .exit 0]
  step := fun rec K x => spec_ReadList_l0_step F K.1 K.2.1 rec x
/-- loop.example/g01021/spec.ReadList -/
def spec_ReadList (F : Nat) (x0 : El .str) : Option (Outs [((.sl (.int .i64)), (.own none .no)), (.bool, .no)]) :=
  cond (x0.toList == (⟨#[45]⟩ : ByteArray).toList) (some ([], true, ())) (obind (spec_l01Split F x0 (44 : Int)) fun r1 => cond (decide ((r1.1.length : Int) > (64 : Int))) (some ([], false, ())) (runP (spec_ReadList_l0_step F (fun y5 => some (y5.1, y5.2.1, ())) (fun y5 => some (y5.1, true, ()))) none F (r1.1, [], (0 : Int), ())))
/-- loop.example/g01021/spec.l03Ok -/
def spec_l03Ok (F : Nat) (x0 : El (.ptr Tsiiiiii)) : Option (Outs [(.bool, .no)]) :=
  obind (spec_l01Name F x0.1) fun r1 => cond (!r1.1) (some (false, ())) (obind (spec_l00In F x0.2.1 (0 : Int) (15 : Int)) fun r2 => cond (!r2.1) (some (false, ())) (obind (spec_l00In F x0.2.2.1 (0 : Int) (15 : Int)) fun r3 => cond (!r3.1) (some (false, ())) (cond (x0.2.1 == x0.2.2.1) (some (false, ())) (obind (spec_l00In F x0.2.2.2.1 (1 : Int) (10000 : Int)) fun r4 => cond r4.1 (obind (spec_l00In F x0.2.2.2.2.1 (50 : Int) (5000 : Int)) fun r5 => cond r5.1 (obind (spec_l00In F x0.2.2.2.2.2.1 (1 : Int) (1000 : Int)) fun r6 => cond r6.1 (obind (spec_l00In F x0.2.2.2.2.2.2.1 (0 : Int) (1000 : Int)) fun r7 => some (r7.1, ())) (some (false, ()))) (some (false, ()))) (some (false, ()))))))
/-- loop.example/g01021/spec.l03Read -/
def spec_l03Read (F : Nat) (x0 : El .str) : Option (Outs [(Tsiiiiii, (.pr .no (.pr .no (.pr .no (.pr .no (.pr .no (.pr .no (.pr .no .no)))))))), (.bool, .no)]) :=
  obind (spec_l01Split F x0 (32 : Int)) fun r1 => cond ((r1.1.length : Int) != (2 : Int)) (some (((⟨#[]⟩ : ByteArray), ((0 : Int), ((0 : Int), ((0 : Int), ((0 : Int), ((0 : Int), ((0 : Int), ()))))))), false, ())) (obind (rdAt r1.1 (1 : Int)) fun v2 => obind (spec_ReadList F v2) fun r3 => cond (!r3.2.1) (some (((⟨#[]⟩ : ByteArray), ((0 : Int), ((0 : Int), ((0 : Int), ((0 : Int), ((0 : Int), ((0 : Int), ()))))))), false, ())) (cond ((r3.1.length : Int) != (6 : Int)) (some (((⟨#[]⟩ : ByteArray), ((0 : Int), ((0 : Int), ((0 : Int), ((0 : Int), ((0 : Int), ((0 : Int), ()))))))), false, ())) (obind (rdAt r1.1 (0 : Int)) fun v4 => obind (rdAt r3.1 (0 : Int)) fun v5 => obind (rdAt r3.1 (1 : Int)) fun v6 => obind (rdAt r3.1 (2 : Int)) fun v7 => obind (rdAt r3.1 (3 : Int)) fun v8 => obind (rdAt r3.1 (4 : Int)) fun v9 => obind (rdAt r3.1 (5 : Int)) fun v10 => obind (spec_l03Ok F (v4, (v5, (v6, (v7, (v8, (v9, (v10, ())))))))) fun r11 => cond (!r11.1) (some (((⟨#[]⟩ : ByteArray), ((0 : Int), ((0 : Int), ((0 : Int), ((0 : Int), ((0 : Int), ((0 : Int), ()))))))), false, ())) (some ((v4, (v5, (v6, (v7, (v8, (v9, (v10, ()))))))), true, ())))))
abbrev spec_MineOfBlocks_l0s : List Sh := [.val (.sl Tsss) .no, .val (.int .i64) .no, .dead, .dead, .box none TiSqsiiiiiip (.pr .no (.pr (.own none .no) .no)), .dead, .box none TiSqsiiiiiip (.pr .no (.pr (.own none .no) .no)), .val (.int .i64) .no, .dead, .dead, .dead, .dead, .dead, .dead, .dead, .dead, .dead, .dead, .dead, .dead, .dead, .dead, .dead, .dead, .dead, .dead, .dead, .dead, .dead, .dead, .dead, .dead, .dead, .dead, .dead, .dead, .dead, .dead, .dead, .dead, .dead, .dead, .dead, .dead, .dead, .dead, .dead, .dead, .dead, .dead, .dead, .dead, .dead, .dead, .dead, .dead, .dead, .dead, .dead, .dead, .dead, .dead, .dead, .dead, .dead, .dead, .dead, .dead, .dead, .dead, .dead, .dead, .dead, .dead, .dead, .dead, .dead, .dead]
abbrev spec_MineOfBlocks_l0o : List (Ex × List Sh) := [(.ret, [.dead, .dead, .dead, .dead, .box none TiSqsiiiiiip (.pr .no (.pr (.own none .no) .no)), .val (.int .i64) .no, .dead, .dead, .dead, .dead, .dead, .dead, .dead, .dead, .dead, .dead, .dead, .dead, .dead, .dead, .dead, .dead, .dead, .dead, .dead, .dead, .dead, .dead, .dead, .dead, .dead, .dead, .dead, .dead, .dead, .dead, .dead, .dead, .dead, .dead, .dead, .dead, .dead, .dead, .dead, .dead, .dead, .dead, .dead, .dead, .dead, .dead, .dead, .dead, .dead, .dead, .dead, .dead, .dead, .dead, .dead, .dead, .dead, .dead, .dead, .dead, .dead, .dead, .dead, .dead, .dead, .dead, .dead, .dead, .dead, .dead, .dead, .dead]), (.exit 0, [.dead, .dead, .dead, .dead, .box none TiSqsiiiiiip (.pr .no (.pr (.own none .no) .no)), .dead, .box none TiSqsiiiiiip (.pr .no (.pr (.own none .no) .no)), .dead, .dead, .dead, .dead, .dead, .dead, .dead, .dead, .dead, .dead, .dead, .dead, .dead, .dead, .dead, .dead, .dead, .dead, .dead, .dead, .dead, .dead, .dead, .dead, .dead, .dead, .dead, .dead, .dead, .dead, .dead, .dead, .dead, .dead, .dead, .dead, .dead, .dead, .dead, .dead, .dead, .dead, .dead, .dead, .dead, .dead, .dead, .dead, .dead, .dead, .dead, .dead, .dead, .dead, .dead, .dead, .dead, .dead, .dead, .dead, .dead, .dead, .dead, .dead, .dead, .dead, .dead, .dead, .dead, .dead, .dead])]
def spec_MineOfBlocks_l0_step {β : Type} (F : Nat) (k0 : El TiSqsiiiiiip × El (.int .i64) × Unit → Option β) (k1 : El TiSqsiiiiiip × El TiSqsiiiiiip × Unit → Option β) (rec : El (.sl Tsss) × El (.int .i64) × El TiSqsiiiiiip × El TiSqsiiiiiip × El (.int .i64) × Unit → Option β) (x : El (.sl Tsss) × El (.int .i64) × El TiSqsiiiiiip × El TiSqsiiiiiip × El (.int .i64) × Unit) : Option β :=
  cond (decide (x.2.2.2.2.1 < (x.1.length : Int))) (obind (rdAt x.1 x.2.2.2.2.1) fun v3 => cond (!(v3.1.toList == (⟨#[97, 105, 114, 119, 97, 121]⟩ : ByteArray).toList)) (rec (x.1, x.2.1, x.2.2.1, x.2.2.2.1, IntKind.i64.wrap (x.2.2.2.2.1 + (1 : Int)), ())) (obind (rdAt x.1 x.2.2.2.2.1) fun v4 => obind (spec_l03Read F v4.2.2.1) fun r5 => cond (!r5.2.1) (k0 (((0 : Int), ([], ())), (9 : Int), ())) (obind (rdAt x.1 x.2.2.2.2.1) fun v6 => cond (!(r5.1.1.toList == v6.2.1.toList)) (k0 (((0 : Int), ([], ())), (6 : Int), ())) (cond (decide (r5.1.2.1 ≥ x.2.1)) (k0 (((0 : Int), ([], ())), (6 : Int), ())) (cond (decide (r5.1.2.2.1 ≥ x.2.1)) (k0 (((0 : Int), ([], ())), (6 : Int), ())) (guardB (decide ((x.2.2.2.1.2.1.length + ([r5.1]).length) * 64 ≤ 140737488355328)) (rec (x.1, x.2.1, x.2.2.1, (x.2.2.2.1.1, (x.2.2.2.1.2.1 ++ ([r5.1]), x.2.2.2.1.2.2)), IntKind.i64.wrap (x.2.2.2.2.1 + (1 : Int)), ())))))))) (k1 (x.2.2.1, x.2.2.2.1, ()))
def spec_MineOfBlocks_l0 (F : Nat) : LoopFn where
  n := 78
  sh := spec_MineOfBlocks_l0s
  outs := spec_MineOfBlocks_l0o
  es := [.ret, .exit 0]
  step := fun rec K x => spec_MineOfBlocks_l0_step F K.1 K.2.1 rec x
/-- loop.example/g01021/spec.MineOfBlocks -/
def spec_MineOfBlocks (F : Nat) (x0 : El (.sl Tsss)) (x1 : El (.int .i64)) : Option (Outs [(TiSqsiiiiiip, (.pr .no (.pr (.own none (.pr .no (.pr .no (.pr .no (.pr .no (.pr .no (.pr .no (.pr .no .no)))))))) .no))), ((.int .i64), .no)]) :=
  obind (spec_l29Ok F x0) fun r1 => cond (!r1.1) (some (((0 : Int), ([], ())), (1 : Int), ())) (obind (spec_l00In F x1 (1 : Int) (16 : Int)) fun r2 => cond (!r2.1) (some (((0 : Int), ([], ())), (2 : Int), ())) (runP (spec_MineOfBlocks_l0_step F (fun y7 => some (y7.1, y7.2.1, ())) (fun y7 => cond (decide ((y7.2.1.2.1.length : Int) > (24 : Int))) (some (((0 : Int), ([], ())), (5 : Int), ())) (some (y7.2.1, (0 : Int), ())))) none F (x0, x1, ((0 : Int), ([], ())), (x1, ([], ())), (0 : Int), ())))
abbrev impl_onlyNameBytes_l0s : List Sh := [.val .str .no, .dead, .dead, .dead, .dead, .dead, .val (.int .i64) .no, .val (.int .i64) .no, .dead, .dead, .dead, .dead, .dead, .dead, .dead, .dead, .dead, .dead, .dead, .dead, .dead, .dead, .dead, .dead, .dead, .dead, .dead, .dead]
abbrev impl_onlyNameBytes_l0o : List (Ex × List Sh) := [(.ret, [.dead, .dead, .val .bool .no, .dead, .dead, .dead, .dead, .dead, .dead, .dead, .dead, .dead, .dead, .dead, .dead, .dead, .dead, .dead, .dead, .dead, .dead, .dead, .dead, .dead, .dead, .dead, .dead, .dead]), (.exit 0, [.dead, .dead, .dead, .dead, .dead, .dead, .dead, .dead, .dead, .dead, .dead, .dead, .dead, .dead, .dead, .dead, .dead, .dead, .dead, .dead, .dead, .dead, .dead, .dead, .dead, .dead, .dead, .dead])]
def impl_onlyNameBytes_l0_step {β : Type} (F : Nat) (k0 : El .bool × Unit → Option β) (k1 : Unit → Option β) (rec : El .str × El (.int .i64) × El (.int .i64) × Unit → Option β) (x : El .str × El (.int .i64) × El (.int .i64) × Unit) : Option β :=
  cond (decide (x.2.2.1 < x.2.1)) (obind (btAt x.1 x.2.2.1) fun v1 => cond (decide (v1 < (97 : Int))) (cond (decide (v1 < (48 : Int))) (k0 (false, ())) (cond (decide (v1 > (57 : Int))) (k0 (false, ())) (rec (x.1, x.2.1, IntKind.i64.wrap (x.2.2.1 + (1 : Int)), ())))) (cond (decide (v1 > (122 : Int))) (cond (decide (v1 < (48 : Int))) (k0 (false, ())) (cond (decide (v1 > (57 : Int))) (k0 (false, ())) (rec (x.1, x.2.1, IntKind.i64.wrap (x.2.2.1 + (1 : Int)), ())))) (rec (x.1, x.2.1, IntKind.i64.wrap (x.2.2.1 + (1 : Int)), ())))) (k1 (()))
def impl_onlyNameBytes_l0 (F : Nat) : LoopFn where
  n := 28
  sh := impl_onlyNameBytes_l0s
  outs := impl_onlyNameBytes_l0o
  es := [.ret, .exit 0]
  step := fun rec K x => impl_onlyNameBytes_l0_step F K.1 K.2.1 rec x
/-- loop.example/g01021/impl.onlyNameBytes -/
def impl_onlyNameBytes (F : Nat) (x0 : El .str) : Option (Outs [(.bool, .no)]) :=
  runP (impl_onlyNameBytes_l0_step F (fun y2 => some (y2.1, ())) (fun y2 => some (true, ()))) none F (x0, (x0.size : Int), (0 : Int), ())
/-- loop.example/g01021/impl.IsName -/
def impl_IsName (F : Nat) (x0 : El .str) : Option (Outs [(.bool, .no)]) :=
  cond (decide ((x0.size : Int) < (1 : Int))) (some (false, ())) (cond (decide ((x0.size : Int) > (10 : Int))) (some (false, ())) (obind (btAt x0 (0 : Int)) fun v1 => cond (decide (v1 < (97 : Int))) (some (false, ())) (obind (btAt x0 (0 : Int)) fun v2 => cond (decide (v2 > (122 : Int))) (some (false, ())) (obind (impl_onlyNameBytes F x0) fun r3 => some (r3.1, ())))))
/-- loop.example/g01021/impl.ValidBlock -/
def impl_ValidBlock (F : Nat) (x0 : El Tsss) : Option (Outs [(.bool, .no)]) :=
  obind (impl_IsName F x0.1) fun r1 => cond r1.1 (obind (impl_IsName F x0.2.1) fun r2 => cond r2.1 (cond (decide ((x0.2.2.1.size : Int) ≤ (400 : Int))) (obind (libContains x0.2.2.1 (⟨#[10]⟩ : ByteArray)) fun r3 => some (!r3.1, ())) (some (false, ()))) (some (false, ()))) (some (false, ()))
/-- cmp.isNaN[string] -/
def cmp_isNaN_string (F : Nat) (x0 : El .str) : Option (Outs [(.bool, .no)]) :=
  some (!(x0.toList == x0.toList), ())
/-- cmp.Compare[string] -/
def cmp_Compare_string (F : Nat) (x0 : El .str) (x1 : El .str) : Option (Outs [((.int .i64), .no)]) :=
  obind (cmp_isNaN_string F x0) fun r1 => obind (cmp_isNaN_string F x1) fun r2 => cond r1.1 (cond r2.1 (some ((0 : Int), ())) (some ((-1 : Int), ()))) (cond r2.1 (some ((1 : Int), ())) (cond (Op.bytesLess x0.toList x1.toList) (some ((-1 : Int), ())) (cond (!(Op.bytesLess x0.toList x1.toList || (x0.toList == x1.toList))) (some ((1 : Int), ())) (some ((0 : Int), ())))))
abbrev cmp_Or_int_l0s : List Sh := [.dead, .dead, .dead, .val (.int .i64) .no, .dead, .dead, .val (.sl (.int .i64)) .no, .val (.int .i64) .no, .val (.int .i64) .no, .dead, .dead, .dead, .dead, .dead, .dead, .dead, .dead, .dead]
abbrev cmp_Or_int_l0o : List (Ex × List Sh) := [(.ret, [.dead, .dead, .val (.int .i64) .no, .dead, .dead, .dead, .dead, .dead, .dead, .dead, .dead, .dead, .dead, .dead, .dead, .dead, .dead, .dead]), (.exit 0, [.dead, .dead, .dead, .val (.int .i64) .no, .dead, .dead, .dead, .dead, .dead, .dead, .dead, .dead, .dead, .dead, .dead, .dead, .dead, .dead])]
def cmp_Or_int_l0_step {β : Type} (F : Nat) (k0 : El (.int .i64) × Unit → Option β) (k1 : El (.int .i64) × Unit → Option β) (rec : El (.int .i64) × El (.sl (.int .i64)) × El (.int .i64) × El (.int .i64) × Unit → Option β) (x : El (.int .i64) × El (.sl (.int .i64)) × El (.int .i64) × El (.int .i64) × Unit) : Option β :=
  cond (decide (x.2.2.2.1 < x.2.2.1)) (obind (rdAt x.2.1 x.2.2.2.1) fun v1 => cond (v1 != x.1) (k0 (v1, ())) (rec (x.1, x.2.1, x.2.2.1, IntKind.i64.wrap (x.2.2.2.1 + (1 : Int)), ()))) (k1 (x.1, ()))
def cmp_Or_int_l0 (F : Nat) : LoopFn where
  n := 18
  sh := cmp_Or_int_l0s
  outs := cmp_Or_int_l0o
  es := [.ret, .exit 0]
  step := fun rec K x => cmp_Or_int_l0_step F K.1 K.2.1 rec x
/-- cmp.Or[int] -/
def cmp_Or_int (F : Nat) (x0 : El (.sl (.int .i64))) : Option (Outs [((.int .i64), .no)]) :=
  runP (cmp_Or_int_l0_step F (fun y2 => some (y2.1, ())) (fun y2 => some (y2.1, ()))) none F ((0 : Int), x0, (x0.length : Int), (0 : Int), ())
/-- loop.example/g01021/impl.compareBlocks -/
def impl_compareBlocks (F : Nat) (x0 : El Tsss) (x1 : El Tsss) : Option (Outs [((.int .i64), .no)]) :=
  obind (cmp_Compare_string F x0.1 x1.1) fun r1 => obind (cmp_Compare_string F x0.2.1 x1.2.1) fun r2 => obind (cmp_Or_int F ([r1.1, r2.1])) fun r3 => some (r3.1, ())
abbrev impl_ValidBlocks_l0s : List Sh := [.val (.sl Tsss) .no, .dead, .dead, .dead, .dead, .dead, .dead, .dead, .val (.sl Tsss) .no, .val (.int .i64) .no, .val (.int .i64) .no, .dead, .dead, .dead, .dead, .dead, .dead, .dead, .dead, .dead, .dead, .dead, .dead, .dead, .dead, .dead, .dead, .dead, .dead, .dead, .dead, .dead, .dead]
abbrev impl_ValidBlocks_l0o : List (Ex × List Sh) := [(.ret, [.dead, .dead, .val .bool .no, .dead, .dead, .dead, .dead, .dead, .dead, .dead, .dead, .dead, .dead, .dead, .dead, .dead, .dead, .dead, .dead, .dead, .dead, .dead, .dead, .dead, .dead, .dead, .dead, .dead, .dead, .dead, .dead, .dead, .dead]), (.exit 0, [.dead, .dead, .dead, .dead, .dead, .dead, .dead, .dead, .dead, .dead, .dead, .dead, .dead, .dead, .dead, .dead, .dead, .dead, .dead, .dead, .dead, .dead, .dead, .dead, .dead, .dead, .dead, .dead, .dead, .dead, .dead, .dead, .dead])]
def impl_ValidBlocks_l0_step {β : Type} (F : Nat) (k0 : El .bool × Unit → Option β) (k1 : Unit → Option β) (rec : El (.sl Tsss) × El (.sl Tsss) × El (.int .i64) × El (.int .i64) × Unit → Option β) (x : El (.sl Tsss) × El (.sl Tsss) × El (.int .i64) × El (.int .i64) × Unit) : Option β :=
  cond (decide (x.2.2.2.1 < x.2.2.1)) (obind (rdAt x.2.1 x.2.2.2.1) fun v1 => obind (impl_ValidBlock F v1) fun r2 => cond (!r2.1) (k0 (false, ())) (cond (decide (x.2.2.2.1 > (0 : Int))) (obind (rdAt x.1 (IntKind.i64.wrap (x.2.2.2.1 - (1 : Int)))) fun v3 => obind (impl_compareBlocks F v3 v1) fun r4 => cond (decide (r4.1 ≥ (0 : Int))) (k0 (false, ())) (rec (x.1, x.2.1, x.2.2.1, IntKind.i64.wrap (x.2.2.2.1 + (1 : Int)), ()))) (rec (x.1, x.2.1, x.2.2.1, IntKind.i64.wrap (x.2.2.2.1 + (1 : Int)), ())))) (k1 (()))
def impl_ValidBlocks_l0 (F : Nat) : LoopFn where
  n := 33
  sh := impl_ValidBlocks_l0s
  outs := impl_ValidBlocks_l0o
  es := [.ret, .exit 0]
  step := fun rec K x => impl_ValidBlocks_l0_step F K.1 K.2.1 rec x
/-- loop.example/g01021/impl.ValidBlocks -/
def impl_ValidBlocks (F : Nat) (x0 : El (.sl Tsss)) : Option (Outs [(.bool, .no)]) :=
  cond (decide ((x0.length : Int) > (32 : Int))) (some (false, ())) (runP (impl_ValidBlocks_l0_step F (fun y5 => some (y5.1, ())) (fun y5 => some (true, ()))) none F (x0, x0, (x0.length : Int), (0 : Int), ()))
/-- loop.example/g01021/impl.within -/
def impl_within (F : Nat) (x0 : El (.int .i64)) (x1 : El (.int .i64)) (x2 : El (.int .i64)) : Option (Outs [(.bool, .no)]) :=
  cond (decide (x0 ≥ x1)) (some (decide (x0 ≤ x2), ())) (some (false, ()))
/-- loop.example/g01021/impl.Decimal -/
def impl_Decimal (F : Nat) (x0 : El (.int .i64)) : Option (Outs [(.str, .no)]) :=
  obind (libFormatInt x0 (10 : Int)) fun r1 => some (r1.1, ())
abbrev impl_ListText_l0s : List Sh := [.dead, .dead, .dead, .val (.sl .str) (.own none .no), .dead, .dead, .dead, .dead, .dead, .dead, .dead, .dead, .dead, .dead, .dead, .val (.sl (.int .i64)) .no, .val (.int .i64) .no, .val (.int .i64) .no, .dead, .dead, .dead, .dead, .dead, .dead, .dead, .dead, .dead, .dead, .dead, .dead, .dead, .dead]
abbrev impl_ListText_l0o : List (Ex × List Sh) := [(.ret, [.dead, .dead, .val .str .no, .dead, .dead, .dead, .dead, .dead, .dead, .dead, .dead, .dead, .dead, .dead, .dead, .dead, .dead, .dead, .dead, .dead, .dead, .dead, .dead, .dead, .dead, .dead, .dead, .dead, .dead, .dead, .dead, .dead]), (.exit 0, [.dead, .dead, .dead, .val (.sl .str) (.own none .no), .dead, .dead, .dead, .dead, .dead, .dead, .dead, .dead, .dead, .dead, .dead, .dead, .dead, .dead, .dead, .dead, .dead, .dead, .dead, .dead, .dead, .dead, .dead, .dead, .dead, .dead, .dead, .dead])]
def impl_ListText_l0_step {β : Type} (F : Nat) (k0 : El .str × Unit → Option β) (k1 : El (.sl .str) × Unit → Option β) (rec : El (.sl .str) × El (.sl (.int .i64)) × El (.int .i64) × El (.int .i64) × Unit → Option β) (x : El (.sl .str) × El (.sl (.int .i64)) × El (.int .i64) × El (.int .i64) × Unit) : Option β :=
  cond (decide (x.2.2.2.1 < x.2.2.1)) (obind (rdAt x.2.1 x.2.2.2.1) fun v1 => obind (impl_within F v1 (-1000000000000 : Int) (1000000000000 : Int)) fun r2 => cond (!r2.1) (k0 ((⟨#[]⟩ : ByteArray), ())) (obind (impl_Decimal F v1) fun r3 => guardB (decide ((x.1.length + ([r3.1]).length) * 16 ≤ 140737488355328)) (rec (x.1 ++ ([r3.1]), x.2.1, x.2.2.1, IntKind.i64.wrap (x.2.2.2.1 + (1 : Int)), ())))) (k1 (x.1, ()))
def impl_ListText_l0 (F : Nat) : LoopFn where
  n := 32
  sh := impl_ListText_l0s
  outs := impl_ListText_l0o
  es := [.ret, .exit 0]
  step := fun rec K x => impl_ListText_l0_step F K.1 K.2.1 rec x
/-- loop.example/g01021/impl.ListText -/
def impl_ListText (F : Nat) (x0 : El (.sl (.int .i64))) : Option (Outs [(.str, .no)]) :=
  cond (decide ((x0.length : Int) > (64 : Int))) (some ((⟨#[]⟩ : ByteArray), ())) (cond ((x0.length : Int) == (0 : Int)) (some ((⟨#[45]⟩ : ByteArray), ())) (guardB (decide ((0 : Int) ≤ (0 : Int))) (guardB (decide ((0 : Int) ≤ (x0.length : Int))) (guardB (decide ((x0.length : Int) * (16 : Int) ≤ 281474976710656)) (guardB (decide ((x0.length : Int) ≤ 9223372036854775807)) (runP (impl_ListText_l0_step F (fun y4 => some (y4.1, ())) (fun y4 => obind (libJoin y4.1 (⟨#[44]⟩ : ByteArray)) fun r5 => some (r5.1, ()))) none F (List.replicate (0 : Int).toNat (⟨#[]⟩ : ByteArray), x0, (x0.length : Int), (0 : Int), ())))))))
abbrev impl_ReadList_l0s : List Sh := [.val .str .no, .dead, .dead, .dead, .val (.sl (.int .i64)) (.own none .no), .dead, .dead, .dead, .dead, .dead, .dead, .dead, .val (.sl .str) (.own none .no), .val (.int .i64) .no, .val (.int .i64) .no, .dead, .dead, .dead, .dead, .dead, .dead, .dead, .dead, .dead, .dead, .dead, .dead, .dead, .dead, .dead, .dead, .dead, .dead, .dead, .dead]
abbrev impl_ReadList_l0o : List (Ex × List Sh) := [(.ret, [.dead, .dead, .val (.sl (.int .i64)) (.own none .no), .val .bool .no, .dead, .dead, .dead, .dead, .dead, .dead, .dead, .dead, .dead, .dead, .dead, .dead, .dead, .dead, .dead, .dead, .dead, .dead, .dead, .dead, .dead, .dead, .dead, .dead, .dead, .dead, .dead, .dead, .dead, .dead, .dead]), (.exit 0, [.val .str .no, .dead, .dead, .dead, .val (.sl (.int .i64)) (.own none .no), .dead, .dead, .dead, .dead, .dead, .dead, .dead, .dead, .dead, .dead, .dead, .dead, .dead, .dead, .dead, .dead, .dead, .dead, .dead, .dead, .dead, .dead, .dead, .dead, .dead, .dead, .dead, .dead, .dead, .dead])]
def impl_ReadList_l0_step {β : Type} (F : Nat) (k0 : El (.sl (.int .i64)) × El .bool × Unit → Option β) (k1 : El .str × El (.sl (.int .i64)) × Unit → Option β) (rec : El .str × El (.sl (.int .i64)) × El (.sl .str) × El (.int .i64) × El (.int .i64) × Unit → Option β) (x : El .str × El (.sl (.int .i64)) × El (.sl .str) × El (.int .i64) × El (.int .i64) × Unit) : Option β :=
  cond (decide (x.2.2.2.2.1 < x.2.2.2.1)) (obind (rdAt x.2.2.1 x.2.2.2.2.1) fun v2 => obind (libReadDecimal v2) fun r3 => cond (!r3.2.1) (k0 ([], false, ())) (guardB (decide ((x.2.1.length + ([r3.1]).length) * 8 ≤ 140737488355328)) (rec (x.1, x.2.1 ++ ([r3.1]), x.2.2.1, x.2.2.2.1, IntKind.i64.wrap (x.2.2.2.2.1 + (1 : Int)), ())))) (k1 (x.1, x.2.1, ()))
def impl_ReadList_l0 (F : Nat) : LoopFn where
  n := 35
  sh := impl_ReadList_l0s
  outs := impl_ReadList_l0o
  es := [.ret, .exit 0]
  step := fun rec K x => impl_ReadList_l0_step F K.1 K.2.1 rec x
/-- loop.example/g01021/impl.ReadList -/
def impl_ReadList (F : Nat) (x0 : El .str) : Option (Outs [((.sl (.int .i64)), (.own none .no)), (.bool, .no)]) :=
  cond (x0.toList == (⟨#[45]⟩ : ByteArray).toList) (some ([], true, ())) (obind (libSplitN x0 (⟨#[44]⟩ : ByteArray) (65 : Int)) fun r1 => runP (impl_ReadList_l0_step F (fun y4 => some (y4.1, y4.2.1, ())) (fun y4 => obind (impl_ListText F y4.2.1) fun r5 => cond (!(r5.1.toList == y4.1.toList)) (some ([], false, ())) (some (y4.2.1, true, ())))) none F (x0, [], r1.1, (r1.1.length : Int), (0 : Int), ()))
/-- loop.example/g01021/impl.readWithId -/
def impl_readWithId (F : Nat) (x0 : El .str) (x1 : El (.int .i64)) : Option (Outs [(.str, .no), ((.sl (.int .i64)), (.own none .no)), (.bool, .no)]) :=
  obind (libCut x0 (⟨#[32]⟩ : ByteArray)) fun r1 => obind (impl_ReadList F r1.2.1) fun r2 => cond (!r2.2.1) (guardB (decide ((0 : Int) ≤ x1)) (guardB (decide (x1 ≤ x1)) (guardB (decide (x1 * (8 : Int) ≤ 281474976710656)) (guardB (decide (x1 ≤ 9223372036854775807)) (some ((⟨#[]⟩ : ByteArray), List.replicate x1.toNat (0 : Int), false, ())))))) (cond ((r2.1.length : Int) != x1) (guardB (decide ((0 : Int) ≤ x1)) (guardB (decide (x1 ≤ x1)) (guardB (decide (x1 * (8 : Int) ≤ 281474976710656)) (guardB (decide (x1 ≤ 9223372036854775807)) (some ((⟨#[]⟩ : ByteArray), List.replicate x1.toNat (0 : Int), false, ())))))) (some (r1.1, r2.1, true, ())))
/-- loop.example/g01021/impl.junctionOk -/
def impl_junctionOk (F : Nat) (x0 : El (.int .i64)) : Option (Outs [(.bool, .no)]) :=
  obind (impl_within F x0 (0 : Int) (15 : Int)) fun r1 => some (r1.1, ())
/-- loop.example/g01021/impl.ValidAirway -/
def impl_ValidAirway (F : Nat) (x0 : El Tsiiiiii) : Option (Outs [(.bool, .no)]) :=
  obind (impl_IsName F x0.1) fun r1 => cond r1.1 (obind (impl_junctionOk F x0.2.1) fun r2 => cond r2.1 (obind (impl_junctionOk F x0.2.2.1) fun r3 => cond r3.1 (cond (x0.2.1 != x0.2.2.1) (obind (impl_within F x0.2.2.2.1 (1 : Int) (10000 : Int)) fun r4 => cond r4.1 (obind (impl_within F x0.2.2.2.2.1 (50 : Int) (5000 : Int)) fun r5 => cond r5.1 (obind (impl_within F x0.2.2.2.2.2.1 (1 : Int) (1000 : Int)) fun r6 => cond r6.1 (obind (impl_within F x0.2.2.2.2.2.2.1 (0 : Int) (1000 : Int)) fun r7 => some (r7.1, ())) (some (false, ()))) (some (false, ()))) (some (false, ()))) (some (false, ()))) (some (false, ()))) (some (false, ()))) (some (false, ()))
/-- loop.example/g01021/impl.withId -/
def impl_withId (F : Nat) (x0 : El .str) (x1 : El (.sl (.int .i64))) : Option (Outs [(.str, .no)]) :=
  guardB (decide (x0.size + (⟨#[32]⟩ : ByteArray).size ≤ 9223372036854775807)) (obind (impl_ListText F x1) fun r1 => guardB (decide ((x0 ++ (⟨#[32]⟩ : ByteArray)).size + r1.1.size ≤ 9223372036854775807)) (some ((x0 ++ (⟨#[32]⟩ : ByteArray)) ++ r1.1, ())))
/-- loop.example/g01021/impl.AirwayText -/
def impl_AirwayText (F : Nat) (x0 : El Tsiiiiii) : Option (Outs [(.str, .no)]) :=
  obind (impl_ValidAirway F x0) fun r1 => cond (!r1.1) (some ((⟨#[]⟩ : ByteArray), ())) (obind (impl_withId F x0.1 ([x0.2.1, x0.2.2.1, x0.2.2.2.1, x0.2.2.2.2.1, x0.2.2.2.2.2.1, x0.2.2.2.2.2.2.1])) fun r2 => some (r2.1, ()))
/-- loop.example/g01021/impl.ReadAirway -/
def impl_ReadAirway (F : Nat) (x0 : El .str) : Option (Outs [(Tsiiiiii, (.pr .no (.pr .no (.pr .no (.pr .no (.pr .no (.pr .no (.pr .no .no)))))))), (.bool, .no)]) :=
  obind (impl_readWithId F x0 (6 : Int)) fun r1 => obind (rdAt r1.2.1 (0 : Int)) fun v2 => obind (rdAt r1.2.1 (1 : Int)) fun v3 => obind (rdAt r1.2.1 (2 : Int)) fun v4 => obind (rdAt r1.2.1 (3 : Int)) fun v5 => obind (rdAt r1.2.1 (4 : Int)) fun v6 => obind (rdAt r1.2.1 (5 : Int)) fun v7 => cond (!r1.2.2.1) (some (((⟨#[]⟩ : ByteArray), ((0 : Int), ((0 : Int), ((0 : Int), ((0 : Int), ((0 : Int), ((0 : Int), ()))))))), false, ())) (obind (impl_AirwayText F (r1.1, (v2, (v3, (v4, (v5, (v6, (v7, ())))))))) fun r8 => cond (!(r8.1.toList == x0.toList)) (some (((⟨#[]⟩ : ByteArray), ((0 : Int), ((0 : Int), ((0 : Int), ((0 : Int), ((0 : Int), ((0 : Int), ()))))))), false, ())) (some ((r1.1, (v2, (v3, (v4, (v5, (v6, (v7, ()))))))), true, ())))
/-- (loop.example/g01021/impl.Mine).hasJunction -/
def impl_Mine_hasJunction (F : Nat) (x0 : El TiSqsiiiiiip) (x1 : El (.int .i64)) : Option (Outs [(.bool, .no)]) :=
  obind (impl_within F x1 (0 : Int) (IntKind.i64.wrap (x0.1 - (1 : Int)))) fun r1 => some (r1.1, ())
/-- (loop.example/g01021/impl.Mine).hasEnds -/
def impl_Mine_hasEnds (F : Nat) (x0 : El TiSqsiiiiiip) (x1 : El Tsiiiiii) : Option (Outs [(.bool, .no)]) :=
  obind (impl_Mine_hasJunction F x0 x1.2.1) fun r1 => cond r1.1 (obind (impl_Mine_hasJunction F x0 x1.2.2.1) fun r2 => some (r2.1, ())) (some (false, ()))
abbrev impl_MineOfBlocks_l0s : List Sh := [.dead, .dead, .dead, .dead, .box none TiSqsiiiiiip (.pr .no (.pr (.own none .no) .no)), .dead, .box none TiSqsiiiiiip (.pr .no (.pr (.own none .no) .no)), .dead, .dead, .dead, .dead, .dead, .dead, .dead, .dead, .dead, .dead, .dead, .dead, .dead, .dead, .dead, .dead, .val (.sl Tsss) .no, .val (.int .i64) .no, .val (.int .i64) .no, .dead, .dead, .dead, .dead, .dead, .dead, .dead, .dead, .dead, .dead, .dead, .dead, .dead, .dead, .dead, .dead, .dead, .dead, .dead, .dead, .dead, .dead, .dead, .dead, .dead, .dead, .dead, .dead, .dead, .dead, .dead, .dead, .dead, .dead, .dead, .dead, .dead, .dead, .dead, .dead, .dead, .dead]
abbrev impl_MineOfBlocks_l0o : List (Ex × List Sh) := [(.ret, [.dead, .dead, .dead, .dead, .box none TiSqsiiiiiip (.pr .no (.pr (.own none .no) .no)), .val (.int .i64) .no, .dead, .dead, .dead, .dead, .dead, .dead, .dead, .dead, .dead, .dead, .dead, .dead, .dead, .dead, .dead, .dead, .dead, .dead, .dead, .dead, .dead, .dead, .dead, .dead, .dead, .dead, .dead, .dead, .dead, .dead, .dead, .dead, .dead, .dead, .dead, .dead, .dead, .dead, .dead, .dead, .dead, .dead, .dead, .dead, .dead, .dead, .dead, .dead, .dead, .dead, .dead, .dead, .dead, .dead, .dead, .dead, .dead, .dead, .dead, .dead, .dead, .dead]), (.exit 1, [.dead, .dead, .dead, .dead, .box none TiSqsiiiiiip (.pr .no (.pr (.own none .no) .no)), .dead, .box none TiSqsiiiiiip (.pr .no (.pr (.own none .no) .no)), .dead, .dead, .dead, .dead, .dead, .dead, .dead, .dead, .dead, .dead, .dead, .dead, .dead, .dead, .dead, .dead, .dead, .dead, .dead, .dead, .dead, .dead, .dead, .dead, .dead, .dead, .dead, .dead, .dead, .dead, .dead, .dead, .dead, .dead, .dead, .dead, .dead, .dead, .dead, .dead, .dead, .dead, .dead, .dead, .dead, .dead, .dead, .dead, .dead, .dead, .dead, .dead, .dead, .dead, .dead, .dead, .dead, .dead, .dead, .dead, .dead])]
def impl_MineOfBlocks_l0_step {β : Type} (F : Nat) (k0 : El TiSqsiiiiiip × El (.int .i64) × Unit → Option β) (k1 : El TiSqsiiiiiip × El TiSqsiiiiiip × Unit → Option β) (rec : El TiSqsiiiiiip × El TiSqsiiiiiip × El (.sl Tsss) × El (.int .i64) × El (.int .i64) × Unit → Option β) (x : El TiSqsiiiiiip × El TiSqsiiiiiip × El (.sl Tsss) × El (.int .i64) × El (.int .i64) × Unit) : Option β :=
  cond (decide (x.2.2.2.2.1 < x.2.2.2.1)) (obind (rdAt x.2.2.1 x.2.2.2.2.1) fun v3 => cond (!(v3.1.toList == (⟨#[97, 105, 114, 119, 97, 121]⟩ : ByteArray).toList)) (rec (x.1, x.2.1, x.2.2.1, x.2.2.2.1, IntKind.i64.wrap (x.2.2.2.2.1 + (1 : Int)), ())) (obind (impl_ReadAirway F v3.2.2.1) fun r4 => cond (!r4.2.1) (k0 (((0 : Int), ([], ())), (9 : Int), ())) (cond (!(r4.1.1.toList == v3.2.1.toList)) (k0 (((0 : Int), ([], ())), (6 : Int), ())) (obind (impl_Mine_hasEnds F x.2.1 r4.1) fun r5 => cond (!r5.1) (k0 (((0 : Int), ([], ())), (6 : Int), ())) (guardB (decide ((x.2.1.2.1.length + ([r4.1]).length) * 64 ≤ 140737488355328)) (rec (x.1, (x.2.1.1, (x.2.1.2.1 ++ ([r4.1]), x.2.1.2.2)), x.2.2.1, x.2.2.2.1, IntKind.i64.wrap (x.2.2.2.2.1 + (1 : Int)), ()))))))) (k1 (x.1, x.2.1, ()))
def impl_MineOfBlocks_l0 (F : Nat) : LoopFn where
  n := 68
  sh := impl_MineOfBlocks_l0s
  outs := impl_MineOfBlocks_l0o
  es := [.ret, .exit 1]
  step := fun rec K x => impl_MineOfBlocks_l0_step F K.1 K.2.1 rec x
/-- loop.example/g01021/impl.MineOfBlocks -/
def impl_MineOfBlocks (F : Nat) (x0 : El (.sl Tsss)) (x1 : El (.int .i64)) : Option (Outs [(TiSqsiiiiiip, (.pr .no (.pr (.own none (.pr .no (.pr .no (.pr .no (.pr .no (.pr .no (.pr .no (.pr .no .no)))))))) .no))), ((.int .i64), .no)]) :=
  obind (impl_ValidBlocks F x0) fun r1 => cond (!r1.1) (some (((0 : Int), ([], ())), (1 : Int), ())) (obind (impl_within F x1 (1 : Int) (16 : Int)) fun r2 => cond (!r2.1) (some (((0 : Int), ([], ())), (2 : Int), ())) (runP (impl_MineOfBlocks_l0_step F (fun y6 => some (y6.1, y6.2.1, ())) (fun y6 => cond (decide ((y6.2.1.2.1.length : Int) > (24 : Int))) (some (((0 : Int), ([], ())), (5 : Int), ())) (some (y6.2.1, (0 : Int), ())))) none F (((0 : Int), ([], ())), (x1, ([], ())), x0, (x0.length : Int), (0 : Int), ())))
/-- loop.example/g01021/laws.eqAirway -/
def laws_eqAirway (F : Nat) (x0 : El Tsiiiiii) (x1 : El Tsiiiiii) : Option (Outs [(.bool, .no)]) :=
  cond (!(x0.1.toList == x1.1.toList)) (some (false, ())) (cond (x0.2.1 != x1.2.1) (some (false, ())) (cond (x0.2.2.1 != x1.2.2.1) (some (false, ())) (cond (x0.2.2.2.1 != x1.2.2.2.1) (some (false, ())) (cond (x0.2.2.2.2.1 != x1.2.2.2.2.1) (some (false, ())) (cond (x0.2.2.2.2.2.1 != x1.2.2.2.2.2.1) (some (false, ())) (cond (x0.2.2.2.2.2.2.1 != x1.2.2.2.2.2.2.1) (some (false, ())) (some (true, ()))))))))
abbrev laws_eqAirwayS_l0s : List Sh := [.val (.sl Tsiiiiii) .no, .val (.sl Tsiiiiii) .no, .dead, .dead, .dead, .val (.int .i64) .no, .dead, .dead, .dead, .dead, .dead, .dead, .dead, .dead, .dead, .dead, .dead, .dead, .dead, .dead, .dead, .dead, .dead, .dead, .dead, .dead, .dead]
abbrev laws_eqAirwayS_l0o : List (Ex × List Sh) := [(.ret, [.dead, .dead, .dead, .dead, .val .bool .no, .dead, .dead, .dead, .dead, .dead, .dead, .dead, .dead, .dead, .dead, .dead, .dead, .dead, .dead, .dead, .dead, .dead, .dead, .dead, .dead, .dead, .dead]), (.exit 0, [.dead, .dead, .dead, .dead, .dead, .dead, .dead, .dead, .dead, .dead, .dead, .dead, .dead, .dead, .dead, .dead, .dead, .dead, .dead, .dead, .dead, .dead, .dead, .dead, .dead, .dead, .dead])]
def laws_eqAirwayS_l0_step {β : Type} (F : Nat) (k0 : El .bool × Unit → Option β) (k1 : Unit → Option β) (rec : El (.sl Tsiiiiii) × El (.sl Tsiiiiii) × El (.int .i64) × Unit → Option β) (x : El (.sl Tsiiiiii) × El (.sl Tsiiiiii) × El (.int .i64) × Unit) : Option β :=
  cond (decide (x.2.2.1 < (x.1.length : Int))) (obind (rdAt x.1 x.2.2.1) fun v1 => obind (rdAt x.2.1 x.2.2.1) fun v2 => obind (laws_eqAirway F v1 v2) fun r3 => cond (!r3.1) (k0 (false, ())) (rec (x.1, x.2.1, IntKind.i64.wrap (x.2.2.1 + (1 : Int)), ()))) (k1 (()))
def laws_eqAirwayS_l0 (F : Nat) : LoopFn where
  n := 27
  sh := laws_eqAirwayS_l0s
  outs := laws_eqAirwayS_l0o
  es := [.ret, .exit 0]
  step := fun rec K x => laws_eqAirwayS_l0_step F K.1 K.2.1 rec x
/-- loop.example/g01021/laws.eqAirwayS -/
def laws_eqAirwayS (F : Nat) (x0 : El (.sl Tsiiiiii)) (x1 : El (.sl Tsiiiiii)) : Option (Outs [(.bool, .no)]) :=
  cond ((x0.length : Int) != (x1.length : Int)) (some (false, ())) (runP (laws_eqAirwayS_l0_step F (fun y4 => some (y4.1, ())) (fun y4 => some (true, ()))) none F (x0, x1, (0 : Int), ()))
/-- loop.example/g01021/laws.eqMine -/
def laws_eqMine (F : Nat) (x0 : El TiSqsiiiiiip) (x1 : El TiSqsiiiiiip) : Option (Outs [(.bool, .no)]) :=
  cond (x0.1 != x1.1) (some (false, ())) (obind (laws_eqAirwayS F x0.2.1 x1.2.1) fun r1 => cond (!r1.1) (some (false, ())) (some (true, ())))
/-- loop.example/g01021/laws.eqBlock -/
def laws_eqBlock (F : Nat) (x0 : El Tsss) (x1 : El Tsss) : Option (Outs [(.bool, .no)]) :=
  cond (!(x0.1.toList == x1.1.toList)) (some (false, ())) (cond (!(x0.2.1.toList == x1.2.1.toList)) (some (false, ())) (cond (!(x0.2.2.1.toList == x1.2.2.1.toList)) (some (false, ())) (some (true, ()))))
abbrev laws_eqBlockS_l0s : List Sh := [.val (.sl Tsss) .no, .val (.sl Tsss) .no, .dead, .dead, .dead, .val (.int .i64) .no, .dead, .dead, .dead, .dead, .dead, .dead, .dead, .dead, .dead, .dead, .dead, .dead, .dead, .dead, .dead, .dead, .dead, .dead, .dead, .dead, .dead]
abbrev laws_eqBlockS_l0o : List (Ex × List Sh) := [(.ret, [.dead, .dead, .dead, .dead, .val .bool .no, .dead, .dead, .dead, .dead, .dead, .dead, .dead, .dead, .dead, .dead, .dead, .dead, .dead, .dead, .dead, .dead, .dead, .dead, .dead, .dead, .dead, .dead]), (.exit 0, [.dead, .dead, .dead, .dead, .dead, .dead, .dead, .dead, .dead, .dead, .dead, .dead, .dead, .dead, .dead, .dead, .dead, .dead, .dead, .dead, .dead, .dead, .dead, .dead, .dead, .dead, .dead])]
def laws_eqBlockS_l0_step {β : Type} (F : Nat) (k0 : El .bool × Unit → Option β) (k1 : Unit → Option β) (rec : El (.sl Tsss) × El (.sl Tsss) × El (.int .i64) × Unit → Option β) (x : El (.sl Tsss) × El (.sl Tsss) × El (.int .i64) × Unit) : Option β :=
  cond (decide (x.2.2.1 < (x.1.length : Int))) (obind (rdAt x.1 x.2.2.1) fun v1 => obind (rdAt x.2.1 x.2.2.1) fun v2 => obind (laws_eqBlock F v1 v2) fun r3 => cond (!r3.1) (k0 (false, ())) (rec (x.1, x.2.1, IntKind.i64.wrap (x.2.2.1 + (1 : Int)), ()))) (k1 (()))
def laws_eqBlockS_l0 (F : Nat) : LoopFn where
  n := 27
  sh := laws_eqBlockS_l0s
  outs := laws_eqBlockS_l0o
  es := [.ret, .exit 0]
  step := fun rec K x => laws_eqBlockS_l0_step F K.1 K.2.1 rec x
/-- loop.example/g01021/laws.eqBlockS -/
def laws_eqBlockS (F : Nat) (x0 : El (.sl Tsss)) (x1 : El (.sl Tsss)) : Option (Outs [(.bool, .no)]) :=
  cond ((x0.length : Int) != (x1.length : Int)) (some (false, ())) (runP (laws_eqBlockS_l0_step F (fun y4 => some (y4.1, ())) (fun y4 => some (true, ()))) none F (x0, x1, (0 : Int), ()))
abbrev laws_markText_l0s : List Sh := [.val (.int .i64) .no, .dead, .dead, .val .str .no, .dead, .dead, .dead, .dead, .dead, .dead, .dead, .dead, .dead, .dead, .dead, .dead, .dead, .dead, .dead, .dead]
abbrev laws_markText_l0o : List (Ex × List Sh) := [(.exit 0, [.dead, .dead, .dead, .val .str .no, .dead, .dead, .dead, .dead, .dead, .dead, .dead, .dead, .dead, .dead, .dead, .dead, .dead, .dead, .dead, .dead])]
def laws_markText_l0_step {β : Type} (F : Nat) (k0 : El .str × Unit → Option β) (rec : El (.int .i64) × El .str × Unit → Option β) (x : El (.int .i64) × El .str × Unit) : Option β :=
  cond (decide (x.1 > (0 : Int))) (guardB (decide ((bytesOf ([IntKind.u8.wrap (IntKind.i64.wrap ((48 : Int) + (x.1.tmod (10 : Int))))])).size + x.2.1.size ≤ 9223372036854775807)) (rec (IntKind.i64.wrap (x.1.tdiv (10 : Int)), (bytesOf ([IntKind.u8.wrap (IntKind.i64.wrap ((48 : Int) + (x.1.tmod (10 : Int))))])) ++ x.2.1, ()))) (k0 (x.2.1, ()))
def laws_markText_l0 (F : Nat) : LoopFn where
  n := 20
  sh := laws_markText_l0s
  outs := laws_markText_l0o
  es := [.exit 0]
  step := fun rec K x => laws_markText_l0_step F K.1 rec x
/-- loop.example/g01021/laws.markText -/
def laws_markText (F : Nat) (x0 : El (.int .i64)) : Option (Outs [(.str, .no)]) :=
  cond (decide (x0 ≤ (0 : Int))) (some ((⟨#[109, 48]⟩ : ByteArray), ())) (runP (laws_markText_l0_step F (fun y1 => guardB (decide ((⟨#[109]⟩ : ByteArray).size + y1.1.size ≤ 9223372036854775807)) (some ((⟨#[109]⟩ : ByteArray) ++ y1.1, ())))) none F (x0, (⟨#[]⟩ : ByteArray), ()))
abbrev laws_markBlockS_l0s : List Sh := [.val (.sl Tsss) (.own (some 0) .no), .val (.int .i64) .no, .dead, .dead, .dead, .val (.int .i64) .no, .dead, .dead, .dead, .dead, .dead, .dead, .dead, .dead, .dead, .dead, .dead, .dead, .dead, .dead, .dead, .dead, .dead, .dead, .dead, .dead, .dead, .dead, .dead, .dead, .dead, .dead, .dead, .dead, .dead, .dead, .dead]
abbrev laws_markBlockS_l0o : List (Ex × List Sh) := [(.exit 0, [.val (.sl Tsss) (.own (some 0) .no), .val (.int .i64) .no, .dead, .dead, .dead, .dead, .dead, .dead, .dead, .dead, .dead, .dead, .dead, .dead, .dead, .dead, .dead, .dead, .dead, .dead, .dead, .dead, .dead, .dead, .dead, .dead, .dead, .dead, .dead, .dead, .dead, .dead, .dead, .dead, .dead, .dead, .dead])]
def laws_markBlockS_l0_step {β : Type} (F : Nat) (k0 : El (.sl Tsss) × El (.int .i64) × Unit → Option β) (rec : El (.sl Tsss) × El (.int .i64) × El (.int .i64) × Unit → Option β) (x : El (.sl Tsss) × El (.int .i64) × El (.int .i64) × Unit) : Option β :=
  cond (decide (x.2.2.1 < (x.1.length : Int))) (obind (laws_markText F x.2.1) fun r1 => obind (rdAt x.1 x.2.2.1) fun v2 => obind (laws_markText F (IntKind.i64.wrap (x.2.1 + (1 : Int)))) fun r3 => obind (rdAt (x.1.set x.2.2.1.toNat (r1.1, v2.2)) x.2.2.1) fun v4 => obind (laws_markText F (IntKind.i64.wrap ((IntKind.i64.wrap (x.2.1 + (1 : Int))) + (1 : Int)))) fun r5 => obind (rdAt ((x.1.set x.2.2.1.toNat (r1.1, v2.2)).set x.2.2.1.toNat (v4.1, (r3.1, v4.2.2))) x.2.2.1) fun v6 => rec (((x.1.set x.2.2.1.toNat (r1.1, v2.2)).set x.2.2.1.toNat (v4.1, (r3.1, v4.2.2))).set x.2.2.1.toNat (v6.1, (v6.2.1, (r5.1, v6.2.2.2))), IntKind.i64.wrap ((IntKind.i64.wrap ((IntKind.i64.wrap (x.2.1 + (1 : Int))) + (1 : Int))) + (1 : Int)), IntKind.i64.wrap (x.2.2.1 + (1 : Int)), ())) (k0 (x.1, x.2.1, ()))
def laws_markBlockS_l0 (F : Nat) : LoopFn where
  n := 37
  sh := laws_markBlockS_l0s
  outs := laws_markBlockS_l0o
  es := [.exit 0]
  step := fun rec K x => laws_markBlockS_l0_step F K.1 rec x
/-- loop.example/g01021/laws.markBlockS -/
def laws_markBlockS (F : Nat) (x0 : El (.sl Tsss)) (x1 : El (.int .i64)) : Option (Outs [((.int .i64), .no)] × El (.sl Tsss)) :=
  runP (laws_markBlockS_l0_step F (fun y7 => some ((y7.2.1, ()), y7.1))) none F (x0, x1, (0 : Int), ())
abbrev laws_markAirwayS_l0s : List Sh := [.val (.sl Tsiiiiii) (.own (some 0) .no), .val (.int .i64) .no, .dead, .dead, .dead, .val (.int .i64) .no, .dead, .dead, .dead, .dead, .dead, .dead, .dead, .dead, .dead, .dead, .dead, .dead, .dead, .dead, .dead, .dead, .dead, .dead, .dead, .dead, .dead, .dead, .dead, .dead, .dead, .dead, .dead, .dead, .dead, .dead, .dead, .dead, .dead, .dead, .dead, .dead, .dead, .dead, .dead, .dead, .dead, .dead, .dead, .dead, .dead, .dead, .dead, .dead, .dead, .dead, .dead, .dead, .dead, .dead, .dead, .dead, .dead]
abbrev laws_markAirwayS_l0o : List (Ex × List Sh) := [(.exit 0, [.val (.sl Tsiiiiii) (.own (some 0) .no), .val (.int .i64) .no, .dead, .dead, .dead, .dead, .dead, .dead, .dead, .dead, .dead, .dead, .dead, .dead, .dead, .dead, .dead, .dead, .dead, .dead, .dead, .dead, .dead, .dead, .dead, .dead, .dead, .dead, .dead, .dead, .dead, .dead, .dead, .dead, .dead, .dead, .dead, .dead, .dead, .dead, .dead, .dead, .dead, .dead, .dead, .dead, .dead, .dead, .dead, .dead, .dead, .dead, .dead, .dead, .dead, .dead, .dead, .dead, .dead, .dead, .dead, .dead, .dead])]
def laws_markAirwayS_l0_step {β : Type} (F : Nat) (k0 : El (.sl Tsiiiiii) × El (.int .i64) × Unit → Option β) (rec : El (.sl Tsiiiiii) × El (.int .i64) × El (.int .i64) × Unit → Option β) (x : El (.sl Tsiiiiii) × El (.int .i64) × El (.int .i64) × Unit) : Option β :=
  cond (decide (x.2.2.1 < (x.1.length : Int))) (obind (laws_markText F x.2.1) fun r1 => obind (rdAt x.1 x.2.2.1) fun v2 => obind (rdAt (x.1.set x.2.2.1.toNat (r1.1, v2.2)) x.2.2.1) fun v3 => obind (rdAt ((x.1.set x.2.2.1.toNat (r1.1, v2.2)).set x.2.2.1.toNat (v3.1, (IntKind.i64.wrap (x.2.1 + (1 : Int)), v3.2.2))) x.2.2.1) fun v4 => obind (rdAt (((x.1.set x.2.2.1.toNat (r1.1, v2.2)).set x.2.2.1.toNat (v3.1, (IntKind.i64.wrap (x.2.1 + (1 : Int)), v3.2.2))).set x.2.2.1.toNat (v4.1, (v4.2.1, (IntKind.i64.wrap ((IntKind.i64.wrap (x.2.1 + (1 : Int))) + (1 : Int)), v4.2.2.2)))) x.2.2.1) fun v5 => obind (rdAt ((((x.1.set x.2.2.1.toNat (r1.1, v2.2)).set x.2.2.1.toNat (v3.1, (IntKind.i64.wrap (x.2.1 + (1 : Int)), v3.2.2))).set x.2.2.1.toNat (v4.1, (v4.2.1, (IntKind.i64.wrap ((IntKind.i64.wrap (x.2.1 + (1 : Int))) + (1 : Int)), v4.2.2.2)))).set x.2.2.1.toNat (v5.1, (v5.2.1, (v5.2.2.1, (IntKind.i64.wrap ((IntKind.i64.wrap ((IntKind.i64.wrap (x.2.1 + (1 : Int))) + (1 : Int))) + (1 : Int)), v5.2.2.2.2))))) x.2.2.1) fun v6 => obind (rdAt (((((x.1.set x.2.2.1.toNat (r1.1, v2.2)).set x.2.2.1.toNat (v3.1, (IntKind.i64.wrap (x.2.1 + (1 : Int)), v3.2.2))).set x.2.2.1.toNat (v4.1, (v4.2.1, (IntKind.i64.wrap ((IntKind.i64.wrap (x.2.1 + (1 : Int))) + (1 : Int)), v4.2.2.2)))).set x.2.2.1.toNat (v5.1, (v5.2.1, (v5.2.2.1, (IntKind.i64.wrap ((IntKind.i64.wrap ((IntKind.i64.wrap (x.2.1 + (1 : Int))) + (1 : Int))) + (1 : Int)), v5.2.2.2.2))))).set x.2.2.1.toNat (v6.1, (v6.2.1, (v6.2.2.1, (v6.2.2.2.1, (IntKind.i64.wrap ((IntKind.i64.wrap ((IntKind.i64.wrap ((IntKind.i64.wrap (x.2.1 + (1 : Int))) + (1 : Int))) + (1 : Int))) + (1 : Int)), v6.2.2.2.2.2)))))) x.2.2.1) fun v7 => obind (rdAt ((((((x.1.set x.2.2.1.toNat (r1.1, v2.2)).set x.2.2.1.toNat (v3.1, (IntKind.i64.wrap (x.2.1 + (1 : Int)), v3.2.2))).set x.2.2.1.toNat (v4.1, (v4.2.1, (IntKind.i64.wrap ((IntKind.i64.wrap (x.2.1 + (1 : Int))) + (1 : Int)), v4.2.2.2)))).set x.2.2.1.toNat (v5.1, (v5.2.1, (v5.2.2.1, (IntKind.i64.wrap ((IntKind.i64.wrap ((IntKind.i64.wrap (x.2.1 + (1 : Int))) + (1 : Int))) + (1 : Int)), v5.2.2.2.2))))).set x.2.2.1.toNat (v6.1, (v6.2.1, (v6.2.2.1, (v6.2.2.2.1, (IntKind.i64.wrap ((IntKind.i64.wrap ((IntKind.i64.wrap ((IntKind.i64.wrap (x.2.1 + (1 : Int))) + (1 : Int))) + (1 : Int))) + (1 : Int)), v6.2.2.2.2.2)))))).set x.2.2.1.toNat (v7.1, (v7.2.1, (v7.2.2.1, (v7.2.2.2.1, (v7.2.2.2.2.1, (IntKind.i64.wrap ((IntKind.i64.wrap ((IntKind.i64.wrap ((IntKind.i64.wrap ((IntKind.i64.wrap (x.2.1 + (1 : Int))) + (1 : Int))) + (1 : Int))) + (1 : Int))) + (1 : Int)), v7.2.2.2.2.2.2))))))) x.2.2.1) fun v8 => rec (((((((x.1.set x.2.2.1.toNat (r1.1, v2.2)).set x.2.2.1.toNat (v3.1, (IntKind.i64.wrap (x.2.1 + (1 : Int)), v3.2.2))).set x.2.2.1.toNat (v4.1, (v4.2.1, (IntKind.i64.wrap ((IntKind.i64.wrap (x.2.1 + (1 : Int))) + (1 : Int)), v4.2.2.2)))).set x.2.2.1.toNat (v5.1, (v5.2.1, (v5.2.2.1, (IntKind.i64.wrap ((IntKind.i64.wrap ((IntKind.i64.wrap (x.2.1 + (1 : Int))) + (1 : Int))) + (1 : Int)), v5.2.2.2.2))))).set x.2.2.1.toNat (v6.1, (v6.2.1, (v6.2.2.1, (v6.2.2.2.1, (IntKind.i64.wrap ((IntKind.i64.wrap ((IntKind.i64.wrap ((IntKind.i64.wrap (x.2.1 + (1 : Int))) + (1 : Int))) + (1 : Int))) + (1 : Int)), v6.2.2.2.2.2)))))).set x.2.2.1.toNat (v7.1, (v7.2.1, (v7.2.2.1, (v7.2.2.2.1, (v7.2.2.2.2.1, (IntKind.i64.wrap ((IntKind.i64.wrap ((IntKind.i64.wrap ((IntKind.i64.wrap ((IntKind.i64.wrap (x.2.1 + (1 : Int))) + (1 : Int))) + (1 : Int))) + (1 : Int))) + (1 : Int)), v7.2.2.2.2.2.2))))))).set x.2.2.1.toNat (v8.1, (v8.2.1, (v8.2.2.1, (v8.2.2.2.1, (v8.2.2.2.2.1, (v8.2.2.2.2.2.1, (IntKind.i64.wrap ((IntKind.i64.wrap ((IntKind.i64.wrap ((IntKind.i64.wrap ((IntKind.i64.wrap ((IntKind.i64.wrap (x.2.1 + (1 : Int))) + (1 : Int))) + (1 : Int))) + (1 : Int))) + (1 : Int))) + (1 : Int)), v8.2.2.2.2.2.2.2))))))), IntKind.i64.wrap ((IntKind.i64.wrap ((IntKind.i64.wrap ((IntKind.i64.wrap ((IntKind.i64.wrap ((IntKind.i64.wrap ((IntKind.i64.wrap (x.2.1 + (1 : Int))) + (1 : Int))) + (1 : Int))) + (1 : Int))) + (1 : Int))) + (1 : Int))) + (1 : Int)), IntKind.i64.wrap (x.2.2.1 + (1 : Int)), ())) (k0 (x.1, x.2.1, ()))
def laws_markAirwayS_l0 (F : Nat) : LoopFn where
  n := 63
  sh := laws_markAirwayS_l0s
  outs := laws_markAirwayS_l0o
  es := [.exit 0]
  step := fun rec K x => laws_markAirwayS_l0_step F K.1 rec x
/-- loop.example/g01021/laws.markAirwayS -/
def laws_markAirwayS (F : Nat) (x0 : El (.sl Tsiiiiii)) (x1 : El (.int .i64)) : Option (Outs [((.int .i64), .no)] × El (.sl Tsiiiiii)) :=
  runP (laws_markAirwayS_l0_step F (fun y9 => some ((y9.2.1, ()), y9.1))) none F (x0, x1, (0 : Int), ())
/-- loop.example/g01021/laws.markMine -/
def laws_markMine (F : Nat) (x0 : El TiSqsiiiiiip) (x1 : El (.int .i64)) : Option (Outs [((.int .i64), .no)] × El TiSqsiiiiiip) :=
  obind (laws_markAirwayS F x0.2.1 x1) fun r1 => some ((r1.1.1, ()), (x0.1, (r1.2, x0.2.2)))
abbrev laws_heldAirwayS_l0s : List Sh := [.val (.sl Tsiiiiii) .no, .val (.int .i64) .no, .dead, .dead, .dead, .val (.int .i64) .no, .dead, .dead, .dead, .dead, .dead, .dead, .dead, .dead, .dead, .dead, .dead, .dead, .dead, .dead, .dead, .dead, .dead, .dead, .dead, .dead, .dead, .dead, .dead, .dead, .dead, .dead, .dead, .dead, .dead, .dead, .dead, .dead, .dead, .dead, .dead, .dead, .dead, .dead, .dead, .dead, .dead, .dead, .dead, .dead, .dead, .dead, .dead, .dead, .dead, .dead, .dead, .dead, .dead, .dead, .dead, .dead, .dead, .dead, .dead, .dead, .dead, .dead, .dead, .dead, .dead, .dead, .dead, .dead, .dead, .dead, .dead]
abbrev laws_heldAirwayS_l0o : List (Ex × List Sh) := [(.ret, [.dead, .dead, .dead, .dead, .val (.int .i64) .no, .dead, .dead, .dead, .dead, .dead, .dead, .dead, .dead, .dead, .dead, .dead, .dead, .dead, .dead, .dead, .dead, .dead, .dead, .dead, .dead, .dead, .dead, .dead, .dead, .dead, .dead, .dead, .dead, .dead, .dead, .dead, .dead, .dead, .dead, .dead, .dead, .dead, .dead, .dead, .dead, .dead, .dead, .dead, .dead, .dead, .dead, .dead, .dead, .dead, .dead, .dead, .dead, .dead, .dead, .dead, .dead, .dead, .dead, .dead, .dead, .dead, .dead, .dead, .dead, .dead, .dead, .dead, .dead, .dead, .dead, .dead, .dead]), (.exit 0, [.dead, .val (.int .i64) .no, .dead, .dead, .dead, .dead, .dead, .dead, .dead, .dead, .dead, .dead, .dead, .dead, .dead, .dead, .dead, .dead, .dead, .dead, .dead, .dead, .dead, .dead, .dead, .dead, .dead, .dead, .dead, .dead, .dead, .dead, .dead, .dead, .dead, .dead, .dead, .dead, .dead, .dead, .dead, .dead, .dead, .dead, .dead, .dead, .dead, .dead, .dead, .dead, .dead, .dead, .dead, .dead, .dead, .dead, .dead, .dead, .dead, .dead, .dead, .dead, .dead, .dead, .dead, .dead, .dead, .dead, .dead, .dead, .dead, .dead, .dead, .dead, .dead, .dead, .dead])]
def laws_heldAirwayS_l0_step {β : Type} (F : Nat) (k0 : El (.int .i64) × Unit → Option β) (k1 : El (.int .i64) × Unit → Option β) (rec : El (.sl Tsiiiiii) × El (.int .i64) × El (.int .i64) × Unit → Option β) (x : El (.sl Tsiiiiii) × El (.int .i64) × El (.int .i64) × Unit) : Option β :=
  cond (decide (x.2.2.1 < (x.1.length : Int))) (obind (rdAt x.1 x.2.2.1) fun v1 => obind (laws_markText F x.2.1) fun r2 => cond (!(v1.1.toList == r2.1.toList)) (k0 ((-1 : Int), ())) (obind (rdAt x.1 x.2.2.1) fun v3 => cond (v3.2.1 != (IntKind.i64.wrap (x.2.1 + (1 : Int)))) (k0 ((-1 : Int), ())) (obind (rdAt x.1 x.2.2.1) fun v4 => cond (v4.2.2.1 != (IntKind.i64.wrap ((IntKind.i64.wrap (x.2.1 + (1 : Int))) + (1 : Int)))) (k0 ((-1 : Int), ())) (obind (rdAt x.1 x.2.2.1) fun v5 => cond (v5.2.2.2.1 != (IntKind.i64.wrap ((IntKind.i64.wrap ((IntKind.i64.wrap (x.2.1 + (1 : Int))) + (1 : Int))) + (1 : Int)))) (k0 ((-1 : Int), ())) (obind (rdAt x.1 x.2.2.1) fun v6 => cond (v6.2.2.2.2.1 != (IntKind.i64.wrap ((IntKind.i64.wrap ((IntKind.i64.wrap ((IntKind.i64.wrap (x.2.1 + (1 : Int))) + (1 : Int))) + (1 : Int))) + (1 : Int)))) (k0 ((-1 : Int), ())) (obind (rdAt x.1 x.2.2.1) fun v7 => cond (v7.2.2.2.2.2.1 != (IntKind.i64.wrap ((IntKind.i64.wrap ((IntKind.i64.wrap ((IntKind.i64.wrap ((IntKind.i64.wrap (x.2.1 + (1 : Int))) + (1 : Int))) + (1 : Int))) + (1 : Int))) + (1 : Int)))) (k0 ((-1 : Int), ())) (obind (rdAt x.1 x.2.2.1) fun v8 => cond (v8.2.2.2.2.2.2.1 != (IntKind.i64.wrap ((IntKind.i64.wrap ((IntKind.i64.wrap ((IntKind.i64.wrap ((IntKind.i64.wrap ((IntKind.i64.wrap (x.2.1 + (1 : Int))) + (1 : Int))) + (1 : Int))) + (1 : Int))) + (1 : Int))) + (1 : Int)))) (k0 ((-1 : Int), ())) (rec (x.1, IntKind.i64.wrap ((IntKind.i64.wrap ((IntKind.i64.wrap ((IntKind.i64.wrap ((IntKind.i64.wrap ((IntKind.i64.wrap ((IntKind.i64.wrap (x.2.1 + (1 : Int))) + (1 : Int))) + (1 : Int))) + (1 : Int))) + (1 : Int))) + (1 : Int))) + (1 : Int)), IntKind.i64.wrap (x.2.2.1 + (1 : Int)), ()))))))))) (k1 (x.2.1, ()))
def laws_heldAirwayS_l0 (F : Nat) : LoopFn where
  n := 77
  sh := laws_heldAirwayS_l0s
  outs := laws_heldAirwayS_l0o
  es := [.ret, .exit 0]
  step := fun rec K x => laws_heldAirwayS_l0_step F K.1 K.2.1 rec x
/-- loop.example/g01021/laws.heldAirwayS -/
def laws_heldAirwayS (F : Nat) (x0 : El (.sl Tsiiiiii)) (x1 : El (.int .i64)) : Option (Outs [((.int .i64), .no)]) :=
  runP (laws_heldAirwayS_l0_step F (fun y9 => some (y9.1, ())) (fun y9 => some (y9.1, ()))) none F (x0, x1, (0 : Int), ())
/-- loop.example/g01021/laws.heldMine -/
def laws_heldMine (F : Nat) (x0 : El TiSqsiiiiiip) (x1 : El (.int .i64)) : Option (Outs [((.int .i64), .no)]) :=
  obind (laws_heldAirwayS F x0.2.1 x1) fun r1 => cond (decide (r1.1 < (0 : Int))) (some ((-1 : Int), ())) (some (r1.1, ()))
/-- loop.example/g01021/laws.FnExactMineOfBlocks -/
def laws_FnExactMineOfBlocks (F : Nat) (x0 : El (.sl Tsss)) (x1 : El (.int .i64)) : Option (Outs [(.bool, .no)]) :=
  obind (laws_szBlockS F x0 (1048576 : Int)) fun r1 => cond (decide (r1.1 < (0 : Int))) (some (true, ())) (obind (laws_toBlockS F x0) fun r2 => obind (spec_MineOfBlocks F r2.1 x1) fun r3 => obind (laws_toBlockS F x0) fun r4 => obind (impl_MineOfBlocks F r4.1 x1) fun r5 => obind (laws_eqMine F r5.1 r3.1) fun r6 => cond (!r6.1) (some (false, ())) (cond (r5.2.1 != r3.2.1) (some (false, ())) (obind (laws_toBlockS F x0) fun r7 => obind (laws_eqBlockS F r4.1 r7.1) fun r8 => cond (!r8.1) (some (false, ())) (obind (laws_markBlockS F r4.1 (1 : Int)) fun r9 => cond (decide (r9.1.1 < (0 : Int))) (some (false, ())) (obind (laws_eqMine F r5.1 r3.1) fun r10 => cond (!r10.1) (some (false, ())) (cond (r5.2.1 != r3.2.1) (some (false, ())) (obind (laws_markMine F r5.1 (1 : Int)) fun r11 => obind (laws_heldMine F r11.2 (1 : Int)) fun r12 => cond (decide (r12.1 < (0 : Int))) (some (false, ())) (cond (r12.1 != r11.1.1) (some (false, ())) (obind (laws_toBlockS F x0) fun r13 => obind (impl_MineOfBlocks F r13.1 x1) fun r14 => obind (laws_eqMine F r14.1 r3.1) fun r15 => cond (!r15.1) (some (false, ())) (cond (r14.2.1 != r3.2.1) (some (false, ())) (obind (laws_heldMine F r11.2 (1 : Int)) fun r16 => cond (decide (r16.1 < (0 : Int))) (some (false, ())) (cond (r16.1 != r11.1.1) (some (false, ())) (some (true, ()))))))))))))))
end Go.Ev.Z
