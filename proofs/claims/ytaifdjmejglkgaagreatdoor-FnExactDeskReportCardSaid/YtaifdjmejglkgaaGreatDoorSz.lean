/- A part of the proof: lemmas that the law's theorem uses; their conditions stand in each theorem. -/
import Derived.Test.YtaifdjmejglkgaaGreatDoorDefs
import Derived.Test.YtaifdjmejglkgaaGreatDoorEvThree
namespace Go.Ev.Z
set_option maxRecDepth 100000
theorem laws_szAirway_ok {F : Nat} (hF : 2000000 ≤ F) (x0 : El Tsiiiiii) (hf : FitsEl Tsiiiiii x0) (x1 : Int) (h0 : 0 ≤ x1) (h1 : x1 ≤ 1048576) : laws_szAirway F x0 x1 = some (if (wt Tsiiiiii x0 : Int) ≤ x1 then x1 - wt Tsiiiiii x0 else -1, ()) := by
  have hw : wt Tsiiiiii x0 = x0.1.size + 0 := by first | (simp only [wt]; done) | (simp only [wt]; omega)
  rw [hw]
  unfold laws_szAirway
  refine sz_str (k := fun v => some (v, ())) hf.1 (by omega) (by omega) (fun q => ?_)
  refine sz_end (by omega)
theorem laws_szAirwayS_ok {F : Nat} (hF : 2000000 ≤ F) (x0 : El (.sl Tsiiiiii)) (hf : FitsEl (.sl Tsiiiiii) x0) (x1 : Int) (h0 : 0 ≤ x1) (h1 : x1 ≤ 1048576) : laws_szAirwayS F x0 x1 = some (if (wt (.sl Tsiiiiii) x0 : Int) ≤ x1 then x1 - wt (.sl Tsiiiiii) x0 else -1, ()) := by
  unfold laws_szAirwayS
  exact (szS_top (f := fun b m => laws_szAirway F b m) (wf := wt Tsiiiiii) (fun b hb m q0 q1 => laws_szAirway_ok hF b (hf.2 b hb) m q0 q1) (fun rec x => rfl) hF hf.1 h0 h1)
theorem laws_szMine_ok {F : Nat} (hF : 2000000 ≤ F) (x0 : El TiSqsiiiiiip) (hf : FitsEl TiSqsiiiiiip x0) (x1 : Int) (h0 : 0 ≤ x1) (h1 : x1 ≤ 1048576) : laws_szMine F x0 x1 = some (if (wt TiSqsiiiiiip x0 : Int) ≤ x1 then x1 - wt TiSqsiiiiiip x0 else -1, ()) := by
  have hw : wt TiSqsiiiiiip x0 = wt (.sl Tsiiiiii) x0.2.1 + 0 := by first | (simp only [wt]; done) | (simp only [wt]; omega)
  rw [hw]
  unfold laws_szMine
  refine sz_call (laws_szAirwayS_ok hF _ hf.2.1 _ (by omega) (by omega)) (by omega) (fun q => ?_)
  refine sz_end (by omega)
theorem laws_szInt64S_ok {F : Nat} (hF : 2000000 ≤ F) (x0 : El (.sl (.int .i64))) (hf : FitsEl (.sl (.int .i64)) x0) (x1 : Int) (h0 : 0 ≤ x1) (h1 : x1 ≤ 1048576) : laws_szInt64S F x0 x1 = some (if (wt (.sl (.int .i64)) x0 : Int) ≤ x1 then x1 - wt (.sl (.int .i64)) x0 else -1, ()) := by
  unfold laws_szInt64S
  exact szF_top (wf := wt (.int .i64)) (fun _ => by first | rfl | simp [wt]) hf.1 h0 h1
theorem laws_szInt64SS_ok {F : Nat} (hF : 2000000 ≤ F) (x0 : El (.sl (.sl (.int .i64)))) (hf : FitsEl (.sl (.sl (.int .i64))) x0) (x1 : Int) (h0 : 0 ≤ x1) (h1 : x1 ≤ 1048576) : laws_szInt64SS F x0 x1 = some (if (wt (.sl (.sl (.int .i64))) x0 : Int) ≤ x1 then x1 - wt (.sl (.sl (.int .i64))) x0 else -1, ()) := by
  unfold laws_szInt64SS
  exact (szS_top (f := fun b m => laws_szInt64S F b m) (wf := wt (.sl (.int .i64))) (fun b hb m q0 q1 => laws_szInt64S_ok hF b (hf.2 b hb) m q0 q1) (fun rec x => rfl) hF hf.1 h0 h1)
theorem laws_szFan_ok {F : Nat} (hF : 2000000 ≤ F) (x0 : El TsiSSi) (hf : FitsEl TsiSSi x0) (x1 : Int) (h0 : 0 ≤ x1) (h1 : x1 ≤ 1048576) : laws_szFan F x0 x1 = some (if (wt TsiSSi x0 : Int) ≤ x1 then x1 - wt TsiSSi x0 else -1, ()) := by
  have hw : wt TsiSSi x0 = x0.1.size + (wt (.sl (.sl (.int .i64))) x0.2.2.1 + 0) := by first | (simp only [wt]; done) | (simp only [wt]; omega)
  rw [hw]
  unfold laws_szFan
  refine sz_str (k := fun v => obind (laws_szInt64SS F x0.2.2.1 v) fun r1 => cond (decide (r1.1 < (0 : Int))) (some ((-1 : Int), ())) (some (r1.1, ()))) hf.1 (by omega) (by omega) (fun q => ?_)
  refine sz_call (laws_szInt64SS_ok hF _ hf.2.2.1 _ (by omega) (by omega)) (by omega) (fun q => ?_)
  refine sz_end (by omega)
theorem laws_szFanS_ok {F : Nat} (hF : 2000000 ≤ F) (x0 : El (.sl TsiSSi)) (hf : FitsEl (.sl TsiSSi) x0) (x1 : Int) (h0 : 0 ≤ x1) (h1 : x1 ≤ 1048576) : laws_szFanS F x0 x1 = some (if (wt (.sl TsiSSi) x0 : Int) ≤ x1 then x1 - wt (.sl TsiSSi) x0 else -1, ()) := by
  unfold laws_szFanS
  exact (szS_top (f := fun b m => laws_szFan F b m) (wf := wt TsiSSi) (fun b hb m q0 q1 => laws_szFan_ok hF b (hf.2 b hb) m q0 q1) (fun rec x => rfl) hF hf.1 h0 h1)
theorem laws_szRefuge_ok {F : Nat} (hF : 2000000 ≤ F) (x0 : El Tsiii) (hf : FitsEl Tsiii x0) (x1 : Int) (h0 : 0 ≤ x1) (h1 : x1 ≤ 1048576) : laws_szRefuge F x0 x1 = some (if (wt Tsiii x0 : Int) ≤ x1 then x1 - wt Tsiii x0 else -1, ()) := by
  have hw : wt Tsiii x0 = x0.1.size + 0 := by first | (simp only [wt]; done) | (simp only [wt]; omega)
  rw [hw]
  unfold laws_szRefuge
  refine sz_str (k := fun v => some (v, ())) hf.1 (by omega) (by omega) (fun q => ?_)
  refine sz_end (by omega)
theorem laws_szRefugeS_ok {F : Nat} (hF : 2000000 ≤ F) (x0 : El (.sl Tsiii)) (hf : FitsEl (.sl Tsiii) x0) (x1 : Int) (h0 : 0 ≤ x1) (h1 : x1 ≤ 1048576) : laws_szRefugeS F x0 x1 = some (if (wt (.sl Tsiii) x0 : Int) ≤ x1 then x1 - wt (.sl Tsiii) x0 else -1, ()) := by
  unfold laws_szRefugeS
  exact (szS_top (f := fun b m => laws_szRefuge F b m) (wf := wt Tsiii) (fun b hb m q0 q1 => laws_szRefuge_ok hF b (hf.2 b hb) m q0 q1) (fun rec x => rfl) hF hf.1 h0 h1)
theorem laws_szSensor_ok {F : Nat} (hF : 2000000 ≤ F) (x0 : El Tsiiii) (hf : FitsEl Tsiiii x0) (x1 : Int) (h0 : 0 ≤ x1) (h1 : x1 ≤ 1048576) : laws_szSensor F x0 x1 = some (if (wt Tsiiii x0 : Int) ≤ x1 then x1 - wt Tsiiii x0 else -1, ()) := by
  have hw : wt Tsiiii x0 = x0.1.size + 0 := by first | (simp only [wt]; done) | (simp only [wt]; omega)
  rw [hw]
  unfold laws_szSensor
  refine sz_str (k := fun v => some (v, ())) hf.1 (by omega) (by omega) (fun q => ?_)
  refine sz_end (by omega)
theorem laws_szSensorS_ok {F : Nat} (hF : 2000000 ≤ F) (x0 : El (.sl Tsiiii)) (hf : FitsEl (.sl Tsiiii) x0) (x1 : Int) (h0 : 0 ≤ x1) (h1 : x1 ≤ 1048576) : laws_szSensorS F x0 x1 = some (if (wt (.sl Tsiiii) x0 : Int) ≤ x1 then x1 - wt (.sl Tsiiii) x0 else -1, ()) := by
  unfold laws_szSensorS
  exact (szS_top (f := fun b m => laws_szSensor F b m) (wf := wt Tsiiii) (fun b hb m q0 q1 => laws_szSensor_ok hF b (hf.2 b hb) m q0 q1) (fun rec x => rfl) hF hf.1 h0 h1)
theorem laws_szPermit_ok {F : Nat} (hF : 2000000 ≤ F) (x0 : El Tsiiii) (hf : FitsEl Tsiiii x0) (x1 : Int) (h0 : 0 ≤ x1) (h1 : x1 ≤ 1048576) : laws_szPermit F x0 x1 = some (if (wt Tsiiii x0 : Int) ≤ x1 then x1 - wt Tsiiii x0 else -1, ()) := by
  have hw : wt Tsiiii x0 = x0.1.size + 0 := by first | (simp only [wt]; done) | (simp only [wt]; omega)
  rw [hw]
  unfold laws_szPermit
  refine sz_str (k := fun v => some (v, ())) hf.1 (by omega) (by omega) (fun q => ?_)
  refine sz_end (by omega)
theorem laws_szPermitS_ok {F : Nat} (hF : 2000000 ≤ F) (x0 : El (.sl Tsiiii)) (hf : FitsEl (.sl Tsiiii) x0) (x1 : Int) (h0 : 0 ≤ x1) (h1 : x1 ≤ 1048576) : laws_szPermitS F x0 x1 = some (if (wt (.sl Tsiiii) x0 : Int) ≤ x1 then x1 - wt (.sl Tsiiii) x0 else -1, ()) := by
  unfold laws_szPermitS
  exact (szS_top (f := fun b m => laws_szPermit F b m) (wf := wt Tsiiii) (fun b hb m q0 q1 => laws_szPermit_ok hF b (hf.2 b hb) m q0 q1) (fun rec x => rfl) hF hf.1 h0 h1)
theorem laws_szDrill_ok {F : Nat} (hF : 2000000 ≤ F) (x0 : El Tisiii) (hf : FitsEl Tisiii x0) (x1 : Int) (h0 : 0 ≤ x1) (h1 : x1 ≤ 1048576) : laws_szDrill F x0 x1 = some (if (wt Tisiii x0 : Int) ≤ x1 then x1 - wt Tisiii x0 else -1, ()) := by
  have hw : wt Tisiii x0 = x0.2.1.size + 0 := by first | (simp only [wt]; done) | (simp only [wt]; omega)
  rw [hw]
  unfold laws_szDrill
  refine sz_str (k := fun v => some (v, ())) hf.2.1 (by omega) (by omega) (fun q => ?_)
  refine sz_end (by omega)
theorem laws_szDrillS_ok {F : Nat} (hF : 2000000 ≤ F) (x0 : El (.sl Tisiii)) (hf : FitsEl (.sl Tisiii) x0) (x1 : Int) (h0 : 0 ≤ x1) (h1 : x1 ≤ 1048576) : laws_szDrillS F x0 x1 = some (if (wt (.sl Tisiii) x0 : Int) ≤ x1 then x1 - wt (.sl Tisiii) x0 else -1, ()) := by
  unfold laws_szDrillS
  exact (szS_top (f := fun b m => laws_szDrill F b m) (wf := wt Tisiii) (fun b hb m q0 q1 => laws_szDrill_ok hF b (hf.2 b hb) m q0 q1) (fun rec x => rfl) hF hf.1 h0 h1)
theorem laws_szDesk_ok {F : Nat} (hF : 2000000 ≤ F) (x0 : El T5d55a700) (hf : FitsEl T5d55a700 x0) (x1 : Int) (h0 : 0 ≤ x1) (h1 : x1 ≤ 1048576) : laws_szDesk F x0 x1 = some (if (wt T5d55a700 x0 : Int) ≤ x1 then x1 - wt T5d55a700 x0 else -1, ()) := by
  have hw : wt T5d55a700 x0 = wt TiSqsiiiiiip x0.1 + (wt (.sl (.int .i64)) x0.2.1 + (wt (.sl (.int .i64)) x0.2.2.1 + (wt (.sl TsiSSi) x0.2.2.2.1 + (wt (.sl Tsiii) x0.2.2.2.2.1 + (wt (.sl Tsiiii) x0.2.2.2.2.2.1 + (wt (.sl Tsiiii) x0.2.2.2.2.2.2.1 + (wt (.sl Tisiii) x0.2.2.2.2.2.2.2.1 + 0))))))) := by first | (simp only [wt]; done) | (simp only [wt]; omega)
  rw [hw]
  unfold laws_szDesk
  refine sz_call (laws_szMine_ok hF _ hf.1 _ (by omega) (by omega)) (by omega) (fun q => ?_)
  refine sz_call (laws_szInt64S_ok hF _ hf.2.1 _ (by omega) (by omega)) (by omega) (fun q => ?_)
  refine sz_call (laws_szInt64S_ok hF _ hf.2.2.1 _ (by omega) (by omega)) (by omega) (fun q => ?_)
  refine sz_call (laws_szFanS_ok hF _ hf.2.2.2.1 _ (by omega) (by omega)) (by omega) (fun q => ?_)
  refine sz_call (laws_szRefugeS_ok hF _ hf.2.2.2.2.1 _ (by omega) (by omega)) (by omega) (fun q => ?_)
  refine sz_call (laws_szSensorS_ok hF _ hf.2.2.2.2.2.1 _ (by omega) (by omega)) (by omega) (fun q => ?_)
  refine sz_call (laws_szPermitS_ok hF _ hf.2.2.2.2.2.2.1 _ (by omega) (by omega)) (by omega) (fun q => ?_)
  refine sz_call (laws_szDrillS_ok hF _ hf.2.2.2.2.2.2.2.1 _ (by omega) (by omega)) (by omega) (fun q => ?_)
  refine sz_end (by omega)
theorem laws_toAirway_ok {F : Nat} (hF : 2000000 ≤ F) (x0 : El Tsiiiiii) (hw : wt Tsiiiiii x0 ≤ 1048576) : laws_toAirway F x0 = some (x0, ()) := by
  rfl
theorem laws_toAirwayS_ok {F : Nat} (hF : 2000000 ≤ F) (x0 : El (.sl Tsiiiiii)) (hw : wt (.sl Tsiiiiii) x0 ≤ 1048576) : laws_toAirwayS F x0 = some (x0, ()) := by
  unfold laws_toAirwayS
  replace hw : x0.length + (x0.map (wt Tsiiiiii)).sum ≤ 1048576 := hw
  have hl : x0.length ≤ 1048576 := by omega
  rw [gd (decide_eq_true (by omega)), gd (decide_eq_true (by omega)), gd (decide_eq_true (by omega)), gd (decide_eq_true (by omega))]
  exact toS (f := fun b => laws_toAirway F b) (fun b hb => laws_toAirway_ok hF b (by have := le_sum (f := wt Tsiiiiii) hb; omega)) (K1 := fun y => some (y.1, ())) (fun rec x => rfl) (by omega) x0.length 0 _ F (by omega) (by omega) (by simp) rfl
theorem laws_toMine_ok {F : Nat} (hF : 2000000 ≤ F) (x0 : El TiSqsiiiiiip) (hw : wt TiSqsiiiiiip x0 ≤ 1048576) : laws_toMine F x0 = some (x0, ()) := by
  replace hw : wt (.int .i64) x0.1 + (wt (.sl Tsiiiiii) x0.2.1 + (0)) ≤ 1048576 := hw
  have c0 := laws_toAirwayS_ok hF x0.2.1 (by omega)
  first | (simp only [laws_toMine, c0, obind]; done) | (simp only [laws_toMine, c0, obind]; rfl)
theorem laws_toInt64S_ok {F : Nat} (hF : 2000000 ≤ F) (x0 : El (.sl (.int .i64))) (hw : wt (.sl (.int .i64)) x0 ≤ 1048576) : laws_toInt64S F x0 = some (x0, ()) := by
  unfold laws_toInt64S
  replace hw : x0.length + (x0.map (wt (.int .i64))).sum ≤ 1048576 := hw
  have hl : x0.length ≤ 1048576 := by omega
  rw [gd (decide_eq_true (by omega)), gd (decide_eq_true (by omega)), gd (decide_eq_true (by omega)), gd (decide_eq_true (by omega))]
  exact toF (K1 := fun y => some (y.1, ())) (fun rec x => rfl) (by omega) x0.length 0 _ F (by omega) (by omega) (by simp) rfl
theorem laws_toInt64SS_ok {F : Nat} (hF : 2000000 ≤ F) (x0 : El (.sl (.sl (.int .i64)))) (hw : wt (.sl (.sl (.int .i64))) x0 ≤ 1048576) : laws_toInt64SS F x0 = some (x0, ()) := by
  unfold laws_toInt64SS
  replace hw : x0.length + (x0.map (wt (.sl (.int .i64)))).sum ≤ 1048576 := hw
  have hl : x0.length ≤ 1048576 := by omega
  rw [gd (decide_eq_true (by omega)), gd (decide_eq_true (by omega)), gd (decide_eq_true (by omega)), gd (decide_eq_true (by omega))]
  exact toS (f := fun b => laws_toInt64S F b) (fun b hb => laws_toInt64S_ok hF b (by have := le_sum (f := wt (.sl (.int .i64))) hb; omega)) (K1 := fun y => some (y.1, ())) (fun rec x => rfl) (by omega) x0.length 0 _ F (by omega) (by omega) (by simp) rfl
theorem laws_toFan_ok {F : Nat} (hF : 2000000 ≤ F) (x0 : El TsiSSi) (hw : wt TsiSSi x0 ≤ 1048576) : laws_toFan F x0 = some (x0, ()) := by
  replace hw : wt .str x0.1 + (wt (.int .i64) x0.2.1 + (wt (.sl (.sl (.int .i64))) x0.2.2.1 + (0))) ≤ 1048576 := hw
  have c0 := laws_toInt64SS_ok hF x0.2.2.1 (by omega)
  first | (simp only [laws_toFan, c0, obind]; done) | (simp only [laws_toFan, c0, obind]; rfl)
theorem laws_toFanS_ok {F : Nat} (hF : 2000000 ≤ F) (x0 : El (.sl TsiSSi)) (hw : wt (.sl TsiSSi) x0 ≤ 1048576) : laws_toFanS F x0 = some (x0, ()) := by
  unfold laws_toFanS
  replace hw : x0.length + (x0.map (wt TsiSSi)).sum ≤ 1048576 := hw
  have hl : x0.length ≤ 1048576 := by omega
  rw [gd (decide_eq_true (by omega)), gd (decide_eq_true (by omega)), gd (decide_eq_true (by omega)), gd (decide_eq_true (by omega))]
  exact toS (f := fun b => laws_toFan F b) (fun b hb => laws_toFan_ok hF b (by have := le_sum (f := wt TsiSSi) hb; omega)) (K1 := fun y => some (y.1, ())) (fun rec x => rfl) (by omega) x0.length 0 _ F (by omega) (by omega) (by simp) rfl
theorem laws_toRefuge_ok {F : Nat} (hF : 2000000 ≤ F) (x0 : El Tsiii) (hw : wt Tsiii x0 ≤ 1048576) : laws_toRefuge F x0 = some (x0, ()) := by
  rfl
theorem laws_toRefugeS_ok {F : Nat} (hF : 2000000 ≤ F) (x0 : El (.sl Tsiii)) (hw : wt (.sl Tsiii) x0 ≤ 1048576) : laws_toRefugeS F x0 = some (x0, ()) := by
  unfold laws_toRefugeS
  replace hw : x0.length + (x0.map (wt Tsiii)).sum ≤ 1048576 := hw
  have hl : x0.length ≤ 1048576 := by omega
  rw [gd (decide_eq_true (by omega)), gd (decide_eq_true (by omega)), gd (decide_eq_true (by omega)), gd (decide_eq_true (by omega))]
  exact toS (f := fun b => laws_toRefuge F b) (fun b hb => laws_toRefuge_ok hF b (by have := le_sum (f := wt Tsiii) hb; omega)) (K1 := fun y => some (y.1, ())) (fun rec x => rfl) (by omega) x0.length 0 _ F (by omega) (by omega) (by simp) rfl
theorem laws_toSensor_ok {F : Nat} (hF : 2000000 ≤ F) (x0 : El Tsiiii) (hw : wt Tsiiii x0 ≤ 1048576) : laws_toSensor F x0 = some (x0, ()) := by
  rfl
theorem laws_toSensorS_ok {F : Nat} (hF : 2000000 ≤ F) (x0 : El (.sl Tsiiii)) (hw : wt (.sl Tsiiii) x0 ≤ 1048576) : laws_toSensorS F x0 = some (x0, ()) := by
  unfold laws_toSensorS
  replace hw : x0.length + (x0.map (wt Tsiiii)).sum ≤ 1048576 := hw
  have hl : x0.length ≤ 1048576 := by omega
  rw [gd (decide_eq_true (by omega)), gd (decide_eq_true (by omega)), gd (decide_eq_true (by omega)), gd (decide_eq_true (by omega))]
  exact toS (f := fun b => laws_toSensor F b) (fun b hb => laws_toSensor_ok hF b (by have := le_sum (f := wt Tsiiii) hb; omega)) (K1 := fun y => some (y.1, ())) (fun rec x => rfl) (by omega) x0.length 0 _ F (by omega) (by omega) (by simp) rfl
theorem laws_toPermit_ok {F : Nat} (hF : 2000000 ≤ F) (x0 : El Tsiiii) (hw : wt Tsiiii x0 ≤ 1048576) : laws_toPermit F x0 = some (x0, ()) := by
  rfl
theorem laws_toPermitS_ok {F : Nat} (hF : 2000000 ≤ F) (x0 : El (.sl Tsiiii)) (hw : wt (.sl Tsiiii) x0 ≤ 1048576) : laws_toPermitS F x0 = some (x0, ()) := by
  unfold laws_toPermitS
  replace hw : x0.length + (x0.map (wt Tsiiii)).sum ≤ 1048576 := hw
  have hl : x0.length ≤ 1048576 := by omega
  rw [gd (decide_eq_true (by omega)), gd (decide_eq_true (by omega)), gd (decide_eq_true (by omega)), gd (decide_eq_true (by omega))]
  exact toS (f := fun b => laws_toPermit F b) (fun b hb => laws_toPermit_ok hF b (by have := le_sum (f := wt Tsiiii) hb; omega)) (K1 := fun y => some (y.1, ())) (fun rec x => rfl) (by omega) x0.length 0 _ F (by omega) (by omega) (by simp) rfl
theorem laws_toDrill_ok {F : Nat} (hF : 2000000 ≤ F) (x0 : El Tisiii) (hw : wt Tisiii x0 ≤ 1048576) : laws_toDrill F x0 = some (x0, ()) := by
  rfl
theorem laws_toDrillS_ok {F : Nat} (hF : 2000000 ≤ F) (x0 : El (.sl Tisiii)) (hw : wt (.sl Tisiii) x0 ≤ 1048576) : laws_toDrillS F x0 = some (x0, ()) := by
  unfold laws_toDrillS
  replace hw : x0.length + (x0.map (wt Tisiii)).sum ≤ 1048576 := hw
  have hl : x0.length ≤ 1048576 := by omega
  rw [gd (decide_eq_true (by omega)), gd (decide_eq_true (by omega)), gd (decide_eq_true (by omega)), gd (decide_eq_true (by omega))]
  exact toS (f := fun b => laws_toDrill F b) (fun b hb => laws_toDrill_ok hF b (by have := le_sum (f := wt Tisiii) hb; omega)) (K1 := fun y => some (y.1, ())) (fun rec x => rfl) (by omega) x0.length 0 _ F (by omega) (by omega) (by simp) rfl
theorem laws_toDesk_ok {F : Nat} (hF : 2000000 ≤ F) (x0 : El T5d55a700) (hw : wt T5d55a700 x0 ≤ 1048576) : laws_toDesk F x0 = some (x0, ()) := by
  replace hw : wt TiSqsiiiiiip x0.1 + (wt (.sl (.int .i64)) x0.2.1 + (wt (.sl (.int .i64)) x0.2.2.1 + (wt (.sl TsiSSi) x0.2.2.2.1 + (wt (.sl Tsiii) x0.2.2.2.2.1 + (wt (.sl Tsiiii) x0.2.2.2.2.2.1 + (wt (.sl Tsiiii) x0.2.2.2.2.2.2.1 + (wt (.sl Tisiii) x0.2.2.2.2.2.2.2.1 + (0)))))))) ≤ 1048576 := hw
  have c0 := laws_toMine_ok hF x0.1 (by omega)
  have c1 := laws_toInt64S_ok hF x0.2.1 (by omega)
  have c2 := laws_toInt64S_ok hF x0.2.2.1 (by omega)
  have c3 := laws_toFanS_ok hF x0.2.2.2.1 (by omega)
  have c4 := laws_toRefugeS_ok hF x0.2.2.2.2.1 (by omega)
  have c5 := laws_toSensorS_ok hF x0.2.2.2.2.2.1 (by omega)
  have c6 := laws_toPermitS_ok hF x0.2.2.2.2.2.2.1 (by omega)
  have c7 := laws_toDrillS_ok hF x0.2.2.2.2.2.2.2.1 (by omega)
  first | (simp only [laws_toDesk, c0, c1, c2, c3, c4, c5, c6, c7, obind]; done) | (simp only [laws_toDesk, c0, c1, c2, c3, c4, c5, c6, c7, obind]; rfl)
theorem laws_eqStringS_ok {F : Nat} (hF : 2000000 ≤ F) (x0 : El (.sl .str)) (hw : wt (.sl .str) x0 ≤ 1048576) : laws_eqStringS F x0 x0 = some (true, ()) := by
  unfold laws_eqStringS
  replace hw : x0.length + (x0.map (wt .str)).sum ≤ 1048576 := hw
  have hl : x0.length ≤ 1048576 := by omega
  rw [show ((x0.length : Int) != (x0.length : Int)) = false from by simp, cond_false]
  exact eqF (bad := fun (v1 v2 : El .str) => (!(v1.toList == v2.toList))) (fun b => by simp) (K1 := fun y => some (y.1, ())) (K2 := fun _ => some (true, ())) (fun rec x => rfl) (by omega) x0.length 0 F (by omega) (by omega)
theorem laws_eqAirway_ok {F : Nat} (hF : 2000000 ≤ F) (x0 : El Tsiiiiii) (hw : wt Tsiiiiii x0 ≤ 1048576) : laws_eqAirway F x0 x0 = some (true, ()) := by
  replace hw : wt .str x0.1 + (wt (.int .i64) x0.2.1 + (wt (.int .i64) x0.2.2.1 + (wt (.int .i64) x0.2.2.2.1 + (wt (.int .i64) x0.2.2.2.2.1 + (wt (.int .i64) x0.2.2.2.2.2.1 + (wt (.int .i64) x0.2.2.2.2.2.2.1 + (0))))))) ≤ 1048576 := hw
  simp only [laws_eqAirway, obind, bne_self_eq_false, beq_self_eq_true, beq_bytes, Bool.not_true, cond_false, cond_true]
theorem laws_eqAirwayS_ok {F : Nat} (hF : 2000000 ≤ F) (x0 : El (.sl Tsiiiiii)) (hw : wt (.sl Tsiiiiii) x0 ≤ 1048576) : laws_eqAirwayS F x0 x0 = some (true, ()) := by
  unfold laws_eqAirwayS
  replace hw : x0.length + (x0.map (wt Tsiiiiii)).sum ≤ 1048576 := hw
  have hl : x0.length ≤ 1048576 := by omega
  rw [show ((x0.length : Int) != (x0.length : Int)) = false from by simp, cond_false]
  exact eqS (f := fun a b => laws_eqAirway F a b) (fun b hb => laws_eqAirway_ok hF b (by have := le_sum (f := wt Tsiiiiii) hb; omega)) (K1 := fun y => some (y.1, ())) (K2 := fun _ => some (true, ())) (fun rec x => rfl) (by omega) x0.length 0 F (by omega) (by omega)
theorem laws_eqMine_ok {F : Nat} (hF : 2000000 ≤ F) (x0 : El TiSqsiiiiiip) (hw : wt TiSqsiiiiiip x0 ≤ 1048576) : laws_eqMine F x0 x0 = some (true, ()) := by
  replace hw : wt (.int .i64) x0.1 + (wt (.sl Tsiiiiii) x0.2.1 + (0)) ≤ 1048576 := hw
  have c0 := laws_eqAirwayS_ok hF x0.2.1 (by omega)
  simp only [laws_eqMine, c0, obind, bne_self_eq_false, beq_self_eq_true, beq_bytes, Bool.not_true, cond_false, cond_true]
theorem laws_eqInt64S_ok {F : Nat} (hF : 2000000 ≤ F) (x0 : El (.sl (.int .i64))) (hw : wt (.sl (.int .i64)) x0 ≤ 1048576) : laws_eqInt64S F x0 x0 = some (true, ()) := by
  unfold laws_eqInt64S
  replace hw : x0.length + (x0.map (wt (.int .i64))).sum ≤ 1048576 := hw
  have hl : x0.length ≤ 1048576 := by omega
  rw [show ((x0.length : Int) != (x0.length : Int)) = false from by simp, cond_false]
  exact eqF (bad := fun (v1 v2 : El (.int .i64)) => (v1 != v2)) (fun b => by simp) (K1 := fun y => some (y.1, ())) (K2 := fun _ => some (true, ())) (fun rec x => rfl) (by omega) x0.length 0 F (by omega) (by omega)
theorem laws_eqInt64SS_ok {F : Nat} (hF : 2000000 ≤ F) (x0 : El (.sl (.sl (.int .i64)))) (hw : wt (.sl (.sl (.int .i64))) x0 ≤ 1048576) : laws_eqInt64SS F x0 x0 = some (true, ()) := by
  unfold laws_eqInt64SS
  replace hw : x0.length + (x0.map (wt (.sl (.int .i64)))).sum ≤ 1048576 := hw
  have hl : x0.length ≤ 1048576 := by omega
  rw [show ((x0.length : Int) != (x0.length : Int)) = false from by simp, cond_false]
  exact eqS (f := fun a b => laws_eqInt64S F a b) (fun b hb => laws_eqInt64S_ok hF b (by have := le_sum (f := wt (.sl (.int .i64))) hb; omega)) (K1 := fun y => some (y.1, ())) (K2 := fun _ => some (true, ())) (fun rec x => rfl) (by omega) x0.length 0 F (by omega) (by omega)
theorem laws_eqFan_ok {F : Nat} (hF : 2000000 ≤ F) (x0 : El TsiSSi) (hw : wt TsiSSi x0 ≤ 1048576) : laws_eqFan F x0 x0 = some (true, ()) := by
  replace hw : wt .str x0.1 + (wt (.int .i64) x0.2.1 + (wt (.sl (.sl (.int .i64))) x0.2.2.1 + (0))) ≤ 1048576 := hw
  have c0 := laws_eqInt64SS_ok hF x0.2.2.1 (by omega)
  simp only [laws_eqFan, c0, obind, bne_self_eq_false, beq_self_eq_true, beq_bytes, Bool.not_true, cond_false, cond_true]
theorem laws_eqFanS_ok {F : Nat} (hF : 2000000 ≤ F) (x0 : El (.sl TsiSSi)) (hw : wt (.sl TsiSSi) x0 ≤ 1048576) : laws_eqFanS F x0 x0 = some (true, ()) := by
  unfold laws_eqFanS
  replace hw : x0.length + (x0.map (wt TsiSSi)).sum ≤ 1048576 := hw
  have hl : x0.length ≤ 1048576 := by omega
  rw [show ((x0.length : Int) != (x0.length : Int)) = false from by simp, cond_false]
  exact eqS (f := fun a b => laws_eqFan F a b) (fun b hb => laws_eqFan_ok hF b (by have := le_sum (f := wt TsiSSi) hb; omega)) (K1 := fun y => some (y.1, ())) (K2 := fun _ => some (true, ())) (fun rec x => rfl) (by omega) x0.length 0 F (by omega) (by omega)
theorem laws_eqRefuge_ok {F : Nat} (hF : 2000000 ≤ F) (x0 : El Tsiii) (hw : wt Tsiii x0 ≤ 1048576) : laws_eqRefuge F x0 x0 = some (true, ()) := by
  replace hw : wt .str x0.1 + (wt (.int .i64) x0.2.1 + (wt (.int .i64) x0.2.2.1 + (wt (.int .i64) x0.2.2.2.1 + (0)))) ≤ 1048576 := hw
  simp only [laws_eqRefuge, obind, bne_self_eq_false, beq_self_eq_true, beq_bytes, Bool.not_true, cond_false, cond_true]
theorem laws_eqRefugeS_ok {F : Nat} (hF : 2000000 ≤ F) (x0 : El (.sl Tsiii)) (hw : wt (.sl Tsiii) x0 ≤ 1048576) : laws_eqRefugeS F x0 x0 = some (true, ()) := by
  unfold laws_eqRefugeS
  replace hw : x0.length + (x0.map (wt Tsiii)).sum ≤ 1048576 := hw
  have hl : x0.length ≤ 1048576 := by omega
  rw [show ((x0.length : Int) != (x0.length : Int)) = false from by simp, cond_false]
  exact eqS (f := fun a b => laws_eqRefuge F a b) (fun b hb => laws_eqRefuge_ok hF b (by have := le_sum (f := wt Tsiii) hb; omega)) (K1 := fun y => some (y.1, ())) (K2 := fun _ => some (true, ())) (fun rec x => rfl) (by omega) x0.length 0 F (by omega) (by omega)
theorem laws_eqSensor_ok {F : Nat} (hF : 2000000 ≤ F) (x0 : El Tsiiii) (hw : wt Tsiiii x0 ≤ 1048576) : laws_eqSensor F x0 x0 = some (true, ()) := by
  replace hw : wt .str x0.1 + (wt (.int .i64) x0.2.1 + (wt (.int .i64) x0.2.2.1 + (wt (.int .i64) x0.2.2.2.1 + (wt (.int .i64) x0.2.2.2.2.1 + (0))))) ≤ 1048576 := hw
  simp only [laws_eqSensor, obind, bne_self_eq_false, beq_self_eq_true, beq_bytes, Bool.not_true, cond_false, cond_true]
theorem laws_eqSensorS_ok {F : Nat} (hF : 2000000 ≤ F) (x0 : El (.sl Tsiiii)) (hw : wt (.sl Tsiiii) x0 ≤ 1048576) : laws_eqSensorS F x0 x0 = some (true, ()) := by
  unfold laws_eqSensorS
  replace hw : x0.length + (x0.map (wt Tsiiii)).sum ≤ 1048576 := hw
  have hl : x0.length ≤ 1048576 := by omega
  rw [show ((x0.length : Int) != (x0.length : Int)) = false from by simp, cond_false]
  exact eqS (f := fun a b => laws_eqSensor F a b) (fun b hb => laws_eqSensor_ok hF b (by have := le_sum (f := wt Tsiiii) hb; omega)) (K1 := fun y => some (y.1, ())) (K2 := fun _ => some (true, ())) (fun rec x => rfl) (by omega) x0.length 0 F (by omega) (by omega)
theorem laws_eqPermit_ok {F : Nat} (hF : 2000000 ≤ F) (x0 : El Tsiiii) (hw : wt Tsiiii x0 ≤ 1048576) : laws_eqPermit F x0 x0 = some (true, ()) := by
  replace hw : wt .str x0.1 + (wt (.int .i64) x0.2.1 + (wt (.int .i64) x0.2.2.1 + (wt (.int .i64) x0.2.2.2.1 + (wt (.int .i64) x0.2.2.2.2.1 + (0))))) ≤ 1048576 := hw
  simp only [laws_eqPermit, obind, bne_self_eq_false, beq_self_eq_true, beq_bytes, Bool.not_true, cond_false, cond_true]
theorem laws_eqPermitS_ok {F : Nat} (hF : 2000000 ≤ F) (x0 : El (.sl Tsiiii)) (hw : wt (.sl Tsiiii) x0 ≤ 1048576) : laws_eqPermitS F x0 x0 = some (true, ()) := by
  unfold laws_eqPermitS
  replace hw : x0.length + (x0.map (wt Tsiiii)).sum ≤ 1048576 := hw
  have hl : x0.length ≤ 1048576 := by omega
  rw [show ((x0.length : Int) != (x0.length : Int)) = false from by simp, cond_false]
  exact eqS (f := fun a b => laws_eqPermit F a b) (fun b hb => laws_eqPermit_ok hF b (by have := le_sum (f := wt Tsiiii) hb; omega)) (K1 := fun y => some (y.1, ())) (K2 := fun _ => some (true, ())) (fun rec x => rfl) (by omega) x0.length 0 F (by omega) (by omega)
theorem laws_eqDrill_ok {F : Nat} (hF : 2000000 ≤ F) (x0 : El Tisiii) (hw : wt Tisiii x0 ≤ 1048576) : laws_eqDrill F x0 x0 = some (true, ()) := by
  replace hw : wt (.int .i64) x0.1 + (wt .str x0.2.1 + (wt (.int .i64) x0.2.2.1 + (wt (.int .i64) x0.2.2.2.1 + (wt (.int .i64) x0.2.2.2.2.1 + (0))))) ≤ 1048576 := hw
  simp only [laws_eqDrill, obind, bne_self_eq_false, beq_self_eq_true, beq_bytes, Bool.not_true, cond_false, cond_true]
theorem laws_eqDrillS_ok {F : Nat} (hF : 2000000 ≤ F) (x0 : El (.sl Tisiii)) (hw : wt (.sl Tisiii) x0 ≤ 1048576) : laws_eqDrillS F x0 x0 = some (true, ()) := by
  unfold laws_eqDrillS
  replace hw : x0.length + (x0.map (wt Tisiii)).sum ≤ 1048576 := hw
  have hl : x0.length ≤ 1048576 := by omega
  rw [show ((x0.length : Int) != (x0.length : Int)) = false from by simp, cond_false]
  exact eqS (f := fun a b => laws_eqDrill F a b) (fun b hb => laws_eqDrill_ok hF b (by have := le_sum (f := wt Tisiii) hb; omega)) (K1 := fun y => some (y.1, ())) (K2 := fun _ => some (true, ())) (fun rec x => rfl) (by omega) x0.length 0 F (by omega) (by omega)
theorem laws_eqDesk_ok {F : Nat} (hF : 2000000 ≤ F) (x0 : El T5d55a700) (hw : wt T5d55a700 x0 ≤ 1048576) : laws_eqDesk F x0 x0 = some (true, ()) := by
  replace hw : wt TiSqsiiiiiip x0.1 + (wt (.sl (.int .i64)) x0.2.1 + (wt (.sl (.int .i64)) x0.2.2.1 + (wt (.sl TsiSSi) x0.2.2.2.1 + (wt (.sl Tsiii) x0.2.2.2.2.1 + (wt (.sl Tsiiii) x0.2.2.2.2.2.1 + (wt (.sl Tsiiii) x0.2.2.2.2.2.2.1 + (wt (.sl Tisiii) x0.2.2.2.2.2.2.2.1 + (0)))))))) ≤ 1048576 := hw
  have c0 := laws_eqMine_ok hF x0.1 (by omega)
  have c1 := laws_eqInt64S_ok hF x0.2.1 (by omega)
  have c2 := laws_eqInt64S_ok hF x0.2.2.1 (by omega)
  have c3 := laws_eqFanS_ok hF x0.2.2.2.1 (by omega)
  have c4 := laws_eqRefugeS_ok hF x0.2.2.2.2.1 (by omega)
  have c5 := laws_eqSensorS_ok hF x0.2.2.2.2.2.1 (by omega)
  have c6 := laws_eqPermitS_ok hF x0.2.2.2.2.2.2.1 (by omega)
  have c7 := laws_eqDrillS_ok hF x0.2.2.2.2.2.2.2.1 (by omega)
  simp only [laws_eqDesk, c0, c1, c2, c3, c4, c5, c6, c7, obind, bne_self_eq_false, beq_self_eq_true, beq_bytes, Bool.not_true, cond_false, cond_true]
end Go.Ev.Z
