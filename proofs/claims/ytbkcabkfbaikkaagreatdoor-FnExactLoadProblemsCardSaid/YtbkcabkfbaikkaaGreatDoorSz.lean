/- A part of the proof: lemmas that the law's theorem uses; their conditions stand in each theorem. -/
import Derived.Test.YtbkcabkfbaikkaaGreatDoorDefsB
import Derived.Test.YtbkcabkfbaikkaaGreatDoorEvThree
namespace Go.Ev.Z
set_option maxRecDepth 100000
theorem laws_szAirway_ok {F : Nat} (hF : 2000000 ≤ F) (x0 : El Tsiiiiii) (hf : FitsEl Tsiiiiii x0) (x1 : Int) (h0 : 0 ≤ x1) (h1 : x1 ≤ 1048576) : laws_szAirway F x0 x1 = some (if (wt Tsiiiiii x0 : Int) ≤ x1 then x1 - wt Tsiiiiii x0 else -1, ()) := by
  have hw : wt Tsiiiiii x0 = x0.1.size + 0 := by first | (simp only [wt]; done) | (simp only [wt]; omega)
  rw [hw]
  unfold laws_szAirway
  refine sz_str (k := fun v => some (v, ())) hf.1 (by omega) (by omega) (fun q => ?_)
  refine sz_end (by omega)
theorem laws_szAirwayS_ok {F : Nat} (hF : 2000000 ≤ F) (x0 : El (.sl Tsiiiiii)) (hf : FitsEl (.sl Tsiiiiii) x0) (x1 : Int) (h0 : 0 ≤ x1) (h1 : x1 ≤ 1048576) : laws_szAirwayS F x0 x1 = some (if (wt (.sl Tsiiiiii) x0 : Int) ≤ x1 then x1 - wt (.sl Tsiiiiii) x0 else -1, ()) := by
  unfold laws_szAirwayS
  exact (szS_top (f := fun b m => laws_szAirway F b m) (wf := wt Tsiiiiii) (fun b hb m q0 q1 => laws_szAirway_ok hF b (hf.2 b hb) m q0 q1) (fun rec x => rfl) hF hf.1 h0 h1)
theorem laws_szMine_ok {F : Nat} (hF : 2000000 ≤ F) (x0 : El TiSqsiiiiiip) (hf : FitsEl TiSqsiiiiiip x0) (x1 : Int) (h0 : 0 ≤ x1) (h1 : x1 ≤ 1048576) : laws_szMine F x0 x1 = some (if (wt TiSqsiiiiiip x0 : Int) ≤ x1 then x1 - wt TiSqsiiiiiip x0 else -1, ()) := by
  have hw : wt TiSqsiiiiiip x0 = wt (.sl Tsiiiiii) x0.2.1 + 0 := by first | (simp only [wt]; done) | (simp only [wt]; omega)
  rw [hw]
  unfold laws_szMine
  refine sz_call (laws_szAirwayS_ok hF _ hf.2.1 _ (by omega) (by omega)) (by omega) (fun q => ?_)
  refine sz_end (by omega)
theorem laws_szDoor_ok {F : Nat} (hF : 2000000 ≤ F) (x0 : El Tsiii) (hf : FitsEl Tsiii x0) (x1 : Int) (h0 : 0 ≤ x1) (h1 : x1 ≤ 1048576) : laws_szDoor F x0 x1 = some (if (wt Tsiii x0 : Int) ≤ x1 then x1 - wt Tsiii x0 else -1, ()) := by
  have hw : wt Tsiii x0 = x0.1.size + 0 := by first | (simp only [wt]; done) | (simp only [wt]; omega)
  rw [hw]
  unfold laws_szDoor
  refine sz_str (k := fun v => some (v, ())) hf.1 (by omega) (by omega) (fun q => ?_)
  refine sz_end (by omega)
theorem laws_szDoorS_ok {F : Nat} (hF : 2000000 ≤ F) (x0 : El (.sl Tsiii)) (hf : FitsEl (.sl Tsiii) x0) (x1 : Int) (h0 : 0 ≤ x1) (h1 : x1 ≤ 1048576) : laws_szDoorS F x0 x1 = some (if (wt (.sl Tsiii) x0 : Int) ≤ x1 then x1 - wt (.sl Tsiii) x0 else -1, ()) := by
  unfold laws_szDoorS
  exact (szS_top (f := fun b m => laws_szDoor F b m) (wf := wt Tsiii) (fun b hb m q0 q1 => laws_szDoor_ok hF b (hf.2 b hb) m q0 q1) (fun rec x => rfl) hF hf.1 h0 h1)
theorem laws_szInt64S_ok {F : Nat} (hF : 2000000 ≤ F) (x0 : El (.sl (.int .i64))) (hf : FitsEl (.sl (.int .i64)) x0) (x1 : Int) (h0 : 0 ≤ x1) (h1 : x1 ≤ 1048576) : laws_szInt64S F x0 x1 = some (if (wt (.sl (.int .i64)) x0 : Int) ≤ x1 then x1 - wt (.sl (.int .i64)) x0 else -1, ()) := by
  unfold laws_szInt64S
  exact szF_top (wf := wt (.int .i64)) (fun _ => by first | rfl | simp [wt]) hf.1 h0 h1
theorem laws_szInt64SS_ok {F : Nat} (hF : 2000000 ≤ F) (x0 : El (.sl (.sl (.int .i64)))) (hf : FitsEl (.sl (.sl (.int .i64))) x0) (x1 : Int) (h0 : 0 ≤ x1) (h1 : x1 ≤ 1048576) : laws_szInt64SS F x0 x1 = some (if (wt (.sl (.sl (.int .i64))) x0 : Int) ≤ x1 then x1 - wt (.sl (.sl (.int .i64))) x0 else -1, ()) := by
  unfold laws_szInt64SS
  exact (szS_top (f := fun b m => laws_szInt64S F b m) (wf := wt (.sl (.int .i64))) (fun b hb m q0 q1 => laws_szInt64S_ok hF b (hf.2 b hb) m q0 q1) (fun rec x => rfl) hF hf.1 h0 h1)
theorem laws_szFan_ok {F : Nat} (hF : 2000000 ≤ F) (x0 : El TsiSSi) (hf : FitsEl TsiSSi x0) (x1 : Int) (h0 : 0 ≤ x1) (h1 : x1 ≤ 1048576) : laws_szFan F x0 x1 = some (if (wt TsiSSi x0 : Int) ≤ x1 then x1 - wt TsiSSi x0 else -1, ()) := by
  have hw : wt TsiSSi x0 = x0.1.size + (wt (.sl (.sl (.int .i64))) x0.2.2.1 + 0) := by first | (simp only [wt]; done) | (simp only [wt]; omega)
  rw [hw]
  unfold laws_szFan
  refine sz_str (k := fun v => obind (laws_szInt64SS F x0.2.2.1 v) fun r1 => cond (decide (r1.1 < (0 : Int))) (some ((-1 : Int), ())) (some (r1.1, ()))) hf.1 (by omega) (by omega) (fun q => ?_)
  refine sz_call (laws_szInt64SS_ok hF _ hf.2.2.1 _ (by omega) (by omega)) (by omega) (fun q => ?_)
  refine sz_end (by omega)
theorem laws_szFanS_ok {F : Nat} (hF : 2000000 ≤ F) (x0 : El (.sl TsiSSi)) (hf : FitsEl (.sl TsiSSi) x0) (x1 : Int) (h0 : 0 ≤ x1) (h1 : x1 ≤ 1048576) : laws_szFanS F x0 x1 = some (if (wt (.sl TsiSSi) x0 : Int) ≤ x1 then x1 - wt (.sl TsiSSi) x0 else -1, ()) := by
  unfold laws_szFanS
  exact (szS_top (f := fun b m => laws_szFan F b m) (wf := wt TsiSSi) (fun b hb m q0 q1 => laws_szFan_ok hF b (hf.2 b hb) m q0 q1) (fun rec x => rfl) hF hf.1 h0 h1)
theorem laws_szPlant_ok {F : Nat} (hF : 2000000 ≤ F) (x0 : El T9444c66c) (hf : FitsEl T9444c66c x0) (x1 : Int) (h0 : 0 ≤ x1) (h1 : x1 ≤ 1048576) : laws_szPlant F x0 x1 = some (if (wt T9444c66c x0 : Int) ≤ x1 then x1 - wt T9444c66c x0 else -1, ()) := by
  have hw : wt T9444c66c x0 = wt TiSqsiiiiiip x0.1 + (wt (.sl Tsiii) x0.2.1 + (wt (.sl (.sl (.int .i64))) x0.2.2.1 + (wt (.sl TsiSSi) x0.2.2.2.1 + (wt (.sl (.int .i64)) x0.2.2.2.2.1 + 0)))) := by first | (simp only [wt]; done) | (simp only [wt]; omega)
  rw [hw]
  unfold laws_szPlant
  refine sz_call (laws_szMine_ok hF _ hf.1 _ (by omega) (by omega)) (by omega) (fun q => ?_)
  refine sz_call (laws_szDoorS_ok hF _ hf.2.1 _ (by omega) (by omega)) (by omega) (fun q => ?_)
  refine sz_call (laws_szInt64SS_ok hF _ hf.2.2.1 _ (by omega) (by omega)) (by omega) (fun q => ?_)
  refine sz_call (laws_szFanS_ok hF _ hf.2.2.2.1 _ (by omega) (by omega)) (by omega) (fun q => ?_)
  refine sz_call (laws_szInt64S_ok hF _ hf.2.2.2.2.1 _ (by omega) (by omega)) (by omega) (fun q => ?_)
  refine sz_end (by omega)
theorem laws_szBoolS_ok {F : Nat} (hF : 2000000 ≤ F) (x0 : El (.sl .bool)) (hf : FitsEl (.sl .bool) x0) (x1 : Int) (h0 : 0 ≤ x1) (h1 : x1 ≤ 1048576) : laws_szBoolS F x0 x1 = some (if (wt (.sl .bool) x0 : Int) ≤ x1 then x1 - wt (.sl .bool) x0 else -1, ()) := by
  unfold laws_szBoolS
  exact szF_top (wf := wt .bool) (fun _ => by first | rfl | simp [wt]) hf.1 h0 h1
theorem laws_szWantS_ok {F : Nat} (hF : 2000000 ≤ F) (x0 : El (.sl Tiii)) (hf : FitsEl (.sl Tiii) x0) (x1 : Int) (h0 : 0 ≤ x1) (h1 : x1 ≤ 1048576) : laws_szWantS F x0 x1 = some (if (wt (.sl Tiii) x0 : Int) ≤ x1 then x1 - wt (.sl Tiii) x0 else -1, ()) := by
  unfold laws_szWantS
  exact szF_top (wf := wt Tiii) (fun _ => by first | rfl | simp [wt]) hf.1 h0 h1
theorem laws_szSource_ok {F : Nat} (hF : 2000000 ≤ F) (x0 : El Tsii) (hf : FitsEl Tsii x0) (x1 : Int) (h0 : 0 ≤ x1) (h1 : x1 ≤ 1048576) : laws_szSource F x0 x1 = some (if (wt Tsii x0 : Int) ≤ x1 then x1 - wt Tsii x0 else -1, ()) := by
  have hw : wt Tsii x0 = x0.1.size + 0 := by first | (simp only [wt]; done) | (simp only [wt]; omega)
  rw [hw]
  unfold laws_szSource
  refine sz_str (k := fun v => some (v, ())) hf.1 (by omega) (by omega) (fun q => ?_)
  refine sz_end (by omega)
theorem laws_szSourceS_ok {F : Nat} (hF : 2000000 ≤ F) (x0 : El (.sl Tsii)) (hf : FitsEl (.sl Tsii) x0) (x1 : Int) (h0 : 0 ≤ x1) (h1 : x1 ≤ 1048576) : laws_szSourceS F x0 x1 = some (if (wt (.sl Tsii) x0 : Int) ≤ x1 then x1 - wt (.sl Tsii) x0 else -1, ()) := by
  unfold laws_szSourceS
  exact (szS_top (f := fun b m => laws_szSource F b m) (wf := wt Tsii) (fun b hb m q0 q1 => laws_szSource_ok hF b (hf.2 b hb) m q0 q1) (fun rec x => rfl) hF hf.1 h0 h1)
theorem laws_szJob_ok {F : Nat} (hF : 2000000 ≤ F) (x0 : El Tsiii) (hf : FitsEl Tsiii x0) (x1 : Int) (h0 : 0 ≤ x1) (h1 : x1 ≤ 1048576) : laws_szJob F x0 x1 = some (if (wt Tsiii x0 : Int) ≤ x1 then x1 - wt Tsiii x0 else -1, ()) := by
  have hw : wt Tsiii x0 = x0.1.size + 0 := by first | (simp only [wt]; done) | (simp only [wt]; omega)
  rw [hw]
  unfold laws_szJob
  refine sz_str (k := fun v => some (v, ())) hf.1 (by omega) (by omega) (fun q => ?_)
  refine sz_end (by omega)
theorem laws_szJobS_ok {F : Nat} (hF : 2000000 ≤ F) (x0 : El (.sl Tsiii)) (hf : FitsEl (.sl Tsiii) x0) (x1 : Int) (h0 : 0 ≤ x1) (h1 : x1 ≤ 1048576) : laws_szJobS F x0 x1 = some (if (wt (.sl Tsiii) x0 : Int) ≤ x1 then x1 - wt (.sl Tsiii) x0 else -1, ()) := by
  unfold laws_szJobS
  exact (szS_top (f := fun b m => laws_szJob F b m) (wf := wt Tsiii) (fun b hb m q0 q1 => laws_szJob_ok hF b (hf.2 b hb) m q0 q1) (fun rec x => rfl) hF hf.1 h0 h1)
theorem laws_szCrew_ok {F : Nat} (hF : 2000000 ≤ F) (x0 : El Tsii) (hf : FitsEl Tsii x0) (x1 : Int) (h0 : 0 ≤ x1) (h1 : x1 ≤ 1048576) : laws_szCrew F x0 x1 = some (if (wt Tsii x0 : Int) ≤ x1 then x1 - wt Tsii x0 else -1, ()) := by
  have hw : wt Tsii x0 = x0.1.size + 0 := by first | (simp only [wt]; done) | (simp only [wt]; omega)
  rw [hw]
  unfold laws_szCrew
  refine sz_str (k := fun v => some (v, ())) hf.1 (by omega) (by omega) (fun q => ?_)
  refine sz_end (by omega)
theorem laws_szCrewS_ok {F : Nat} (hF : 2000000 ≤ F) (x0 : El (.sl Tsii)) (hf : FitsEl (.sl Tsii) x0) (x1 : Int) (h0 : 0 ≤ x1) (h1 : x1 ≤ 1048576) : laws_szCrewS F x0 x1 = some (if (wt (.sl Tsii) x0 : Int) ≤ x1 then x1 - wt (.sl Tsii) x0 else -1, ()) := by
  unfold laws_szCrewS
  exact (szS_top (f := fun b m => laws_szCrew F b m) (wf := wt Tsii) (fun b hb m q0 q1 => laws_szCrew_ok hF b (hf.2 b hb) m q0 q1) (fun rec x => rfl) hF hf.1 h0 h1)
theorem laws_szPlan_ok {F : Nat} (hF : 2000000 ≤ F) (x0 : El Tc66acf8c) (hf : FitsEl Tc66acf8c x0) (x1 : Int) (h0 : 0 ≤ x1) (h1 : x1 ≤ 1048576) : laws_szPlan F x0 x1 = some (if (wt Tc66acf8c x0 : Int) ≤ x1 then x1 - wt Tc66acf8c x0 else -1, ()) := by
  have hw : wt Tc66acf8c x0 = wt T9444c66c x0.1 + (wt (.sl .bool) x0.2.1 + (wt (.sl (.int .i64)) x0.2.2.1 + (wt (.sl Tiii) x0.2.2.2.1 + (wt (.sl Tsii) x0.2.2.2.2.1 + (wt (.sl Tsiii) x0.2.2.2.2.2.2.1 + (wt (.sl Tsii) x0.2.2.2.2.2.2.2.1 + (wt (.sl (.int .i64)) x0.2.2.2.2.2.2.2.2.1 + 0))))))) := by first | (simp only [wt]; done) | (simp only [wt]; omega)
  rw [hw]
  unfold laws_szPlan
  refine sz_call (laws_szPlant_ok hF _ hf.1 _ (by omega) (by omega)) (by omega) (fun q => ?_)
  refine sz_call (laws_szBoolS_ok hF _ hf.2.1 _ (by omega) (by omega)) (by omega) (fun q => ?_)
  refine sz_call (laws_szInt64S_ok hF _ hf.2.2.1 _ (by omega) (by omega)) (by omega) (fun q => ?_)
  refine sz_call (laws_szWantS_ok hF _ hf.2.2.2.1 _ (by omega) (by omega)) (by omega) (fun q => ?_)
  refine sz_call (laws_szSourceS_ok hF _ hf.2.2.2.2.1 _ (by omega) (by omega)) (by omega) (fun q => ?_)
  refine sz_call (laws_szJobS_ok hF _ hf.2.2.2.2.2.2.1 _ (by omega) (by omega)) (by omega) (fun q => ?_)
  refine sz_call (laws_szCrewS_ok hF _ hf.2.2.2.2.2.2.2.1 _ (by omega) (by omega)) (by omega) (fun q => ?_)
  refine sz_call (laws_szInt64S_ok hF _ hf.2.2.2.2.2.2.2.2.1 _ (by omega) (by omega)) (by omega) (fun q => ?_)
  refine sz_end (by omega)
theorem laws_toAirway_ok {F : Nat} (hF : 2000000 ≤ F) (x0 : El Tsiiiiii) (hw : wt Tsiiiiii x0 ≤ 1048576) : laws_toAirway F x0 = some (x0, ()) := by
  rfl
theorem laws_toAirwayS_ok {F : Nat} (hF : 2000000 ≤ F) (x0 : El (.sl Tsiiiiii)) (hw : wt (.sl Tsiiiiii) x0 ≤ 1048576) : laws_toAirwayS F x0 = some (x0, ()) := by
  unfold laws_toAirwayS
  replace hw : x0.length + (x0.map (wt Tsiiiiii)).sum ≤ 1048576 := hw
  have hl : x0.length ≤ 1048576 := by omega
  rw [gd (decide_eq_true (by omega)), gd (decide_eq_true (by omega)), gd (decide_eq_true (by omega)), gd (decide_eq_true (by omega))]
  exact toS (f := fun b => laws_toAirway F b) (fun b hb => laws_toAirway_ok hF b (by have := le_sum (f := wt Tsiiiiii) hb; omega)) (K1 := fun y => some (y.1, ())) (fun rec x => rfl) (by omega) x0.length 0 _ F (by omega) (by omega) (by simp) rfl
theorem laws_toMine_ok {F : Nat} (hF : 2000000 ≤ F) (x0 : El TiSqsiiiiiip) (hw : wt TiSqsiiiiiip x0 ≤ 1048576) : laws_toMine F x0 = some (x0, ()) := by
  replace hw : wt (.int .i64) x0.1 + (wt (.sl Tsiiiiii) x0.2.1 + (0)) ≤ 1048576 := hw
  have c0 := laws_toAirwayS_ok hF x0.2.1 (by omega)
  first | (simp only [laws_toMine, c0, obind]; done) | (simp only [laws_toMine, c0, obind]; rfl)
theorem laws_toDoor_ok {F : Nat} (hF : 2000000 ≤ F) (x0 : El Tsiii) (hw : wt Tsiii x0 ≤ 1048576) : laws_toDoor F x0 = some (x0, ()) := by
  rfl
theorem laws_toDoorS_ok {F : Nat} (hF : 2000000 ≤ F) (x0 : El (.sl Tsiii)) (hw : wt (.sl Tsiii) x0 ≤ 1048576) : laws_toDoorS F x0 = some (x0, ()) := by
  unfold laws_toDoorS
  replace hw : x0.length + (x0.map (wt Tsiii)).sum ≤ 1048576 := hw
  have hl : x0.length ≤ 1048576 := by omega
  rw [gd (decide_eq_true (by omega)), gd (decide_eq_true (by omega)), gd (decide_eq_true (by omega)), gd (decide_eq_true (by omega))]
  exact toS (f := fun b => laws_toDoor F b) (fun b hb => laws_toDoor_ok hF b (by have := le_sum (f := wt Tsiii) hb; omega)) (K1 := fun y => some (y.1, ())) (fun rec x => rfl) (by omega) x0.length 0 _ F (by omega) (by omega) (by simp) rfl
theorem laws_toInt64S_ok {F : Nat} (hF : 2000000 ≤ F) (x0 : El (.sl (.int .i64))) (hw : wt (.sl (.int .i64)) x0 ≤ 1048576) : laws_toInt64S F x0 = some (x0, ()) := by
  unfold laws_toInt64S
  replace hw : x0.length + (x0.map (wt (.int .i64))).sum ≤ 1048576 := hw
  have hl : x0.length ≤ 1048576 := by omega
  rw [gd (decide_eq_true (by omega)), gd (decide_eq_true (by omega)), gd (decide_eq_true (by omega)), gd (decide_eq_true (by omega))]
  exact toF (K1 := fun y => some (y.1, ())) (fun rec x => rfl) (by omega) x0.length 0 _ F (by omega) (by omega) (by simp) rfl
theorem laws_toInt64SS_ok {F : Nat} (hF : 2000000 ≤ F) (x0 : El (.sl (.sl (.int .i64)))) (hw : wt (.sl (.sl (.int .i64))) x0 ≤ 1048576) : laws_toInt64SS F x0 = some (x0, ()) := by
  unfold laws_toInt64SS
  replace hw : x0.length + (x0.map (wt (.sl (.int .i64)))).sum ≤ 1048576 := hw
  have hl : x0.length ≤ 1048576 := by omega
  rw [gd (decide_eq_true (by omega)), gd (decide_eq_true (by omega)), gd (decide_eq_true (by omega)), gd (decide_eq_true (by omega))]
  exact toS (f := fun b => laws_toInt64S F b) (fun b hb => laws_toInt64S_ok hF b (by have := le_sum (f := wt (.sl (.int .i64))) hb; omega)) (K1 := fun y => some (y.1, ())) (fun rec x => rfl) (by omega) x0.length 0 _ F (by omega) (by omega) (by simp) rfl
theorem laws_toFan_ok {F : Nat} (hF : 2000000 ≤ F) (x0 : El TsiSSi) (hw : wt TsiSSi x0 ≤ 1048576) : laws_toFan F x0 = some (x0, ()) := by
  replace hw : wt .str x0.1 + (wt (.int .i64) x0.2.1 + (wt (.sl (.sl (.int .i64))) x0.2.2.1 + (0))) ≤ 1048576 := hw
  have c0 := laws_toInt64SS_ok hF x0.2.2.1 (by omega)
  first | (simp only [laws_toFan, c0, obind]; done) | (simp only [laws_toFan, c0, obind]; rfl)
theorem laws_toFanS_ok {F : Nat} (hF : 2000000 ≤ F) (x0 : El (.sl TsiSSi)) (hw : wt (.sl TsiSSi) x0 ≤ 1048576) : laws_toFanS F x0 = some (x0, ()) := by
  unfold laws_toFanS
  replace hw : x0.length + (x0.map (wt TsiSSi)).sum ≤ 1048576 := hw
  have hl : x0.length ≤ 1048576 := by omega
  rw [gd (decide_eq_true (by omega)), gd (decide_eq_true (by omega)), gd (decide_eq_true (by omega)), gd (decide_eq_true (by omega))]
  exact toS (f := fun b => laws_toFan F b) (fun b hb => laws_toFan_ok hF b (by have := le_sum (f := wt TsiSSi) hb; omega)) (K1 := fun y => some (y.1, ())) (fun rec x => rfl) (by omega) x0.length 0 _ F (by omega) (by omega) (by simp) rfl
theorem laws_toPlant_ok {F : Nat} (hF : 2000000 ≤ F) (x0 : El T9444c66c) (hw : wt T9444c66c x0 ≤ 1048576) : laws_toPlant F x0 = some (x0, ()) := by
  replace hw : wt TiSqsiiiiiip x0.1 + (wt (.sl Tsiii) x0.2.1 + (wt (.sl (.sl (.int .i64))) x0.2.2.1 + (wt (.sl TsiSSi) x0.2.2.2.1 + (wt (.sl (.int .i64)) x0.2.2.2.2.1 + (wt (.int .i64) x0.2.2.2.2.2.1 + (0)))))) ≤ 1048576 := hw
  have c0 := laws_toMine_ok hF x0.1 (by omega)
  have c1 := laws_toDoorS_ok hF x0.2.1 (by omega)
  have c2 := laws_toInt64SS_ok hF x0.2.2.1 (by omega)
  have c3 := laws_toFanS_ok hF x0.2.2.2.1 (by omega)
  have c4 := laws_toInt64S_ok hF x0.2.2.2.2.1 (by omega)
  first | (simp only [laws_toPlant, c0, c1, c2, c3, c4, obind]; done) | (simp only [laws_toPlant, c0, c1, c2, c3, c4, obind]; rfl)
theorem laws_toBoolS_ok {F : Nat} (hF : 2000000 ≤ F) (x0 : El (.sl .bool)) (hw : wt (.sl .bool) x0 ≤ 1048576) : laws_toBoolS F x0 = some (x0, ()) := by
  unfold laws_toBoolS
  replace hw : x0.length + (x0.map (wt .bool)).sum ≤ 1048576 := hw
  have hl : x0.length ≤ 1048576 := by omega
  rw [gd (decide_eq_true (by omega)), gd (decide_eq_true (by omega)), gd (decide_eq_true (by omega)), gd (decide_eq_true (by omega))]
  exact toF (K1 := fun y => some (y.1, ())) (fun rec x => rfl) (by omega) x0.length 0 _ F (by omega) (by omega) (by simp) rfl
theorem laws_toWant_ok {F : Nat} (hF : 2000000 ≤ F) (x0 : El Tiii) (hw : wt Tiii x0 ≤ 1048576) : laws_toWant F x0 = some (x0, ()) := by
  rfl
theorem laws_toWantS_ok {F : Nat} (hF : 2000000 ≤ F) (x0 : El (.sl Tiii)) (hw : wt (.sl Tiii) x0 ≤ 1048576) : laws_toWantS F x0 = some (x0, ()) := by
  unfold laws_toWantS
  replace hw : x0.length + (x0.map (wt Tiii)).sum ≤ 1048576 := hw
  have hl : x0.length ≤ 1048576 := by omega
  rw [gd (decide_eq_true (by omega)), gd (decide_eq_true (by omega)), gd (decide_eq_true (by omega)), gd (decide_eq_true (by omega))]
  exact toS (f := fun b => laws_toWant F b) (fun b hb => laws_toWant_ok hF b (by have := le_sum (f := wt Tiii) hb; omega)) (K1 := fun y => some (y.1, ())) (fun rec x => rfl) (by omega) x0.length 0 _ F (by omega) (by omega) (by simp) rfl
theorem laws_toSource_ok {F : Nat} (hF : 2000000 ≤ F) (x0 : El Tsii) (hw : wt Tsii x0 ≤ 1048576) : laws_toSource F x0 = some (x0, ()) := by
  rfl
theorem laws_toSourceS_ok {F : Nat} (hF : 2000000 ≤ F) (x0 : El (.sl Tsii)) (hw : wt (.sl Tsii) x0 ≤ 1048576) : laws_toSourceS F x0 = some (x0, ()) := by
  unfold laws_toSourceS
  replace hw : x0.length + (x0.map (wt Tsii)).sum ≤ 1048576 := hw
  have hl : x0.length ≤ 1048576 := by omega
  rw [gd (decide_eq_true (by omega)), gd (decide_eq_true (by omega)), gd (decide_eq_true (by omega)), gd (decide_eq_true (by omega))]
  exact toS (f := fun b => laws_toSource F b) (fun b hb => laws_toSource_ok hF b (by have := le_sum (f := wt Tsii) hb; omega)) (K1 := fun y => some (y.1, ())) (fun rec x => rfl) (by omega) x0.length 0 _ F (by omega) (by omega) (by simp) rfl
theorem laws_toJob_ok {F : Nat} (hF : 2000000 ≤ F) (x0 : El Tsiii) (hw : wt Tsiii x0 ≤ 1048576) : laws_toJob F x0 = some (x0, ()) := by
  rfl
theorem laws_toJobS_ok {F : Nat} (hF : 2000000 ≤ F) (x0 : El (.sl Tsiii)) (hw : wt (.sl Tsiii) x0 ≤ 1048576) : laws_toJobS F x0 = some (x0, ()) := by
  unfold laws_toJobS
  replace hw : x0.length + (x0.map (wt Tsiii)).sum ≤ 1048576 := hw
  have hl : x0.length ≤ 1048576 := by omega
  rw [gd (decide_eq_true (by omega)), gd (decide_eq_true (by omega)), gd (decide_eq_true (by omega)), gd (decide_eq_true (by omega))]
  exact toS (f := fun b => laws_toJob F b) (fun b hb => laws_toJob_ok hF b (by have := le_sum (f := wt Tsiii) hb; omega)) (K1 := fun y => some (y.1, ())) (fun rec x => rfl) (by omega) x0.length 0 _ F (by omega) (by omega) (by simp) rfl
theorem laws_toCrew_ok {F : Nat} (hF : 2000000 ≤ F) (x0 : El Tsii) (hw : wt Tsii x0 ≤ 1048576) : laws_toCrew F x0 = some (x0, ()) := by
  rfl
theorem laws_toCrewS_ok {F : Nat} (hF : 2000000 ≤ F) (x0 : El (.sl Tsii)) (hw : wt (.sl Tsii) x0 ≤ 1048576) : laws_toCrewS F x0 = some (x0, ()) := by
  unfold laws_toCrewS
  replace hw : x0.length + (x0.map (wt Tsii)).sum ≤ 1048576 := hw
  have hl : x0.length ≤ 1048576 := by omega
  rw [gd (decide_eq_true (by omega)), gd (decide_eq_true (by omega)), gd (decide_eq_true (by omega)), gd (decide_eq_true (by omega))]
  exact toS (f := fun b => laws_toCrew F b) (fun b hb => laws_toCrew_ok hF b (by have := le_sum (f := wt Tsii) hb; omega)) (K1 := fun y => some (y.1, ())) (fun rec x => rfl) (by omega) x0.length 0 _ F (by omega) (by omega) (by simp) rfl
theorem laws_toFire_ok {F : Nat} (hF : 2000000 ≤ F) (x0 : El Tiii) (hw : wt Tiii x0 ≤ 1048576) : laws_toFire F x0 = some (x0, ()) := by
  rfl
theorem laws_toPlan_ok {F : Nat} (hF : 2000000 ≤ F) (x0 : El Tc66acf8c) (hw : wt Tc66acf8c x0 ≤ 1048576) : laws_toPlan F x0 = some (x0, ()) := by
  replace hw : wt T9444c66c x0.1 + (wt (.sl .bool) x0.2.1 + (wt (.sl (.int .i64)) x0.2.2.1 + (wt (.sl Tiii) x0.2.2.2.1 + (wt (.sl Tsii) x0.2.2.2.2.1 + (wt (.int .i64) x0.2.2.2.2.2.1 + (wt (.sl Tsiii) x0.2.2.2.2.2.2.1 + (wt (.sl Tsii) x0.2.2.2.2.2.2.2.1 + (wt (.sl (.int .i64)) x0.2.2.2.2.2.2.2.2.1 + (wt Tiii x0.2.2.2.2.2.2.2.2.2.1 + (wt (.int .i64) x0.2.2.2.2.2.2.2.2.2.2.1 + (0))))))))))) ≤ 1048576 := hw
  have c0 := laws_toPlant_ok hF x0.1 (by omega)
  have c1 := laws_toBoolS_ok hF x0.2.1 (by omega)
  have c2 := laws_toInt64S_ok hF x0.2.2.1 (by omega)
  have c3 := laws_toWantS_ok hF x0.2.2.2.1 (by omega)
  have c4 := laws_toSourceS_ok hF x0.2.2.2.2.1 (by omega)
  have c5 := laws_toJobS_ok hF x0.2.2.2.2.2.2.1 (by omega)
  have c6 := laws_toCrewS_ok hF x0.2.2.2.2.2.2.2.1 (by omega)
  have c7 := laws_toInt64S_ok hF x0.2.2.2.2.2.2.2.2.1 (by omega)
  have c8 := laws_toFire_ok hF x0.2.2.2.2.2.2.2.2.2.1 (by omega)
  first | (simp only [laws_toPlan, c0, c1, c2, c3, c4, c5, c6, c7, c8, obind]; done) | (simp only [laws_toPlan, c0, c1, c2, c3, c4, c5, c6, c7, c8, obind]; rfl)
theorem laws_eqProblem_ok {F : Nat} (hF : 2000000 ≤ F) (x0 : El Tiss) (hw : wt Tiss x0 ≤ 1048576) : laws_eqProblem F x0 x0 = some (true, ()) := by
  replace hw : wt (.int .i64) x0.1 + (wt .str x0.2.1 + (wt .str x0.2.2.1 + (0))) ≤ 1048576 := hw
  simp only [laws_eqProblem, obind, bne_self_eq_false, beq_self_eq_true, beq_bytes, Bool.not_true, cond_false, cond_true]
theorem laws_eqProblemS_ok {F : Nat} (hF : 2000000 ≤ F) (x0 : El (.sl Tiss)) (hw : wt (.sl Tiss) x0 ≤ 1048576) : laws_eqProblemS F x0 x0 = some (true, ()) := by
  unfold laws_eqProblemS
  replace hw : x0.length + (x0.map (wt Tiss)).sum ≤ 1048576 := hw
  have hl : x0.length ≤ 1048576 := by omega
  rw [show ((x0.length : Int) != (x0.length : Int)) = false from by simp, cond_false]
  exact eqS (f := fun a b => laws_eqProblem F a b) (fun b hb => laws_eqProblem_ok hF b (by have := le_sum (f := wt Tiss) hb; omega)) (K1 := fun y => some (y.1, ())) (K2 := fun _ => some (true, ())) (fun rec x => rfl) (by omega) x0.length 0 F (by omega) (by omega)
theorem laws_eqAirway_ok {F : Nat} (hF : 2000000 ≤ F) (x0 : El Tsiiiiii) (hw : wt Tsiiiiii x0 ≤ 1048576) : laws_eqAirway F x0 x0 = some (true, ()) := by
  replace hw : wt .str x0.1 + (wt (.int .i64) x0.2.1 + (wt (.int .i64) x0.2.2.1 + (wt (.int .i64) x0.2.2.2.1 + (wt (.int .i64) x0.2.2.2.2.1 + (wt (.int .i64) x0.2.2.2.2.2.1 + (wt (.int .i64) x0.2.2.2.2.2.2.1 + (0))))))) ≤ 1048576 := hw
  simp only [laws_eqAirway, obind, bne_self_eq_false, beq_self_eq_true, beq_bytes, Bool.not_true, cond_false, cond_true]
theorem laws_eqAirwayS_ok {F : Nat} (hF : 2000000 ≤ F) (x0 : El (.sl Tsiiiiii)) (hw : wt (.sl Tsiiiiii) x0 ≤ 1048576) : laws_eqAirwayS F x0 x0 = some (true, ()) := by
  unfold laws_eqAirwayS
  replace hw : x0.length + (x0.map (wt Tsiiiiii)).sum ≤ 1048576 := hw
  have hl : x0.length ≤ 1048576 := by omega
  rw [show ((x0.length : Int) != (x0.length : Int)) = false from by simp, cond_false]
  exact eqS (f := fun a b => laws_eqAirway F a b) (fun b hb => laws_eqAirway_ok hF b (by have := le_sum (f := wt Tsiiiiii) hb; omega)) (K1 := fun y => some (y.1, ())) (K2 := fun _ => some (true, ())) (fun rec x => rfl) (by omega) x0.length 0 F (by omega) (by omega)
theorem laws_eqMine_ok {F : Nat} (hF : 2000000 ≤ F) (x0 : El TiSqsiiiiiip) (hw : wt TiSqsiiiiiip x0 ≤ 1048576) : laws_eqMine F x0 x0 = some (true, ()) := by
  replace hw : wt (.int .i64) x0.1 + (wt (.sl Tsiiiiii) x0.2.1 + (0)) ≤ 1048576 := hw
  have c0 := laws_eqAirwayS_ok hF x0.2.1 (by omega)
  simp only [laws_eqMine, c0, obind, bne_self_eq_false, beq_self_eq_true, beq_bytes, Bool.not_true, cond_false, cond_true]
theorem laws_eqDoor_ok {F : Nat} (hF : 2000000 ≤ F) (x0 : El Tsiii) (hw : wt Tsiii x0 ≤ 1048576) : laws_eqDoor F x0 x0 = some (true, ()) := by
  replace hw : wt .str x0.1 + (wt (.int .i64) x0.2.1 + (wt (.int .i64) x0.2.2.1 + (wt (.int .i64) x0.2.2.2.1 + (0)))) ≤ 1048576 := hw
  simp only [laws_eqDoor, obind, bne_self_eq_false, beq_self_eq_true, beq_bytes, Bool.not_true, cond_false, cond_true]
theorem laws_eqDoorS_ok {F : Nat} (hF : 2000000 ≤ F) (x0 : El (.sl Tsiii)) (hw : wt (.sl Tsiii) x0 ≤ 1048576) : laws_eqDoorS F x0 x0 = some (true, ()) := by
  unfold laws_eqDoorS
  replace hw : x0.length + (x0.map (wt Tsiii)).sum ≤ 1048576 := hw
  have hl : x0.length ≤ 1048576 := by omega
  rw [show ((x0.length : Int) != (x0.length : Int)) = false from by simp, cond_false]
  exact eqS (f := fun a b => laws_eqDoor F a b) (fun b hb => laws_eqDoor_ok hF b (by have := le_sum (f := wt Tsiii) hb; omega)) (K1 := fun y => some (y.1, ())) (K2 := fun _ => some (true, ())) (fun rec x => rfl) (by omega) x0.length 0 F (by omega) (by omega)
theorem laws_eqInt64S_ok {F : Nat} (hF : 2000000 ≤ F) (x0 : El (.sl (.int .i64))) (hw : wt (.sl (.int .i64)) x0 ≤ 1048576) : laws_eqInt64S F x0 x0 = some (true, ()) := by
  unfold laws_eqInt64S
  replace hw : x0.length + (x0.map (wt (.int .i64))).sum ≤ 1048576 := hw
  have hl : x0.length ≤ 1048576 := by omega
  rw [show ((x0.length : Int) != (x0.length : Int)) = false from by simp, cond_false]
  exact eqF (bad := fun (v1 v2 : El (.int .i64)) => (v1 != v2)) (fun b => by simp) (K1 := fun y => some (y.1, ())) (K2 := fun _ => some (true, ())) (fun rec x => rfl) (by omega) x0.length 0 F (by omega) (by omega)
theorem laws_eqInt64SS_ok {F : Nat} (hF : 2000000 ≤ F) (x0 : El (.sl (.sl (.int .i64)))) (hw : wt (.sl (.sl (.int .i64))) x0 ≤ 1048576) : laws_eqInt64SS F x0 x0 = some (true, ()) := by
  unfold laws_eqInt64SS
  replace hw : x0.length + (x0.map (wt (.sl (.int .i64)))).sum ≤ 1048576 := hw
  have hl : x0.length ≤ 1048576 := by omega
  rw [show ((x0.length : Int) != (x0.length : Int)) = false from by simp, cond_false]
  exact eqS (f := fun a b => laws_eqInt64S F a b) (fun b hb => laws_eqInt64S_ok hF b (by have := le_sum (f := wt (.sl (.int .i64))) hb; omega)) (K1 := fun y => some (y.1, ())) (K2 := fun _ => some (true, ())) (fun rec x => rfl) (by omega) x0.length 0 F (by omega) (by omega)
theorem laws_eqFan_ok {F : Nat} (hF : 2000000 ≤ F) (x0 : El TsiSSi) (hw : wt TsiSSi x0 ≤ 1048576) : laws_eqFan F x0 x0 = some (true, ()) := by
  replace hw : wt .str x0.1 + (wt (.int .i64) x0.2.1 + (wt (.sl (.sl (.int .i64))) x0.2.2.1 + (0))) ≤ 1048576 := hw
  have c0 := laws_eqInt64SS_ok hF x0.2.2.1 (by omega)
  simp only [laws_eqFan, c0, obind, bne_self_eq_false, beq_self_eq_true, beq_bytes, Bool.not_true, cond_false, cond_true]
theorem laws_eqFanS_ok {F : Nat} (hF : 2000000 ≤ F) (x0 : El (.sl TsiSSi)) (hw : wt (.sl TsiSSi) x0 ≤ 1048576) : laws_eqFanS F x0 x0 = some (true, ()) := by
  unfold laws_eqFanS
  replace hw : x0.length + (x0.map (wt TsiSSi)).sum ≤ 1048576 := hw
  have hl : x0.length ≤ 1048576 := by omega
  rw [show ((x0.length : Int) != (x0.length : Int)) = false from by simp, cond_false]
  exact eqS (f := fun a b => laws_eqFan F a b) (fun b hb => laws_eqFan_ok hF b (by have := le_sum (f := wt TsiSSi) hb; omega)) (K1 := fun y => some (y.1, ())) (K2 := fun _ => some (true, ())) (fun rec x => rfl) (by omega) x0.length 0 F (by omega) (by omega)
theorem laws_eqPlant_ok {F : Nat} (hF : 2000000 ≤ F) (x0 : El T9444c66c) (hw : wt T9444c66c x0 ≤ 1048576) : laws_eqPlant F x0 x0 = some (true, ()) := by
  replace hw : wt TiSqsiiiiiip x0.1 + (wt (.sl Tsiii) x0.2.1 + (wt (.sl (.sl (.int .i64))) x0.2.2.1 + (wt (.sl TsiSSi) x0.2.2.2.1 + (wt (.sl (.int .i64)) x0.2.2.2.2.1 + (wt (.int .i64) x0.2.2.2.2.2.1 + (0)))))) ≤ 1048576 := hw
  have c0 := laws_eqMine_ok hF x0.1 (by omega)
  have c1 := laws_eqDoorS_ok hF x0.2.1 (by omega)
  have c2 := laws_eqInt64SS_ok hF x0.2.2.1 (by omega)
  have c3 := laws_eqFanS_ok hF x0.2.2.2.1 (by omega)
  have c4 := laws_eqInt64S_ok hF x0.2.2.2.2.1 (by omega)
  simp only [laws_eqPlant, c0, c1, c2, c3, c4, obind, bne_self_eq_false, beq_self_eq_true, beq_bytes, Bool.not_true, cond_false, cond_true]
theorem laws_eqBoolS_ok {F : Nat} (hF : 2000000 ≤ F) (x0 : El (.sl .bool)) (hw : wt (.sl .bool) x0 ≤ 1048576) : laws_eqBoolS F x0 x0 = some (true, ()) := by
  unfold laws_eqBoolS
  replace hw : x0.length + (x0.map (wt .bool)).sum ≤ 1048576 := hw
  have hl : x0.length ≤ 1048576 := by omega
  rw [show ((x0.length : Int) != (x0.length : Int)) = false from by simp, cond_false]
  exact eqF (bad := fun (v1 v2 : El .bool) => (!(v1 == v2))) (fun b => by simp) (K1 := fun y => some (y.1, ())) (K2 := fun _ => some (true, ())) (fun rec x => rfl) (by omega) x0.length 0 F (by omega) (by omega)
theorem laws_eqWant_ok {F : Nat} (hF : 2000000 ≤ F) (x0 : El Tiii) (hw : wt Tiii x0 ≤ 1048576) : laws_eqWant F x0 x0 = some (true, ()) := by
  replace hw : wt (.int .i64) x0.1 + (wt (.int .i64) x0.2.1 + (wt (.int .i64) x0.2.2.1 + (0))) ≤ 1048576 := hw
  simp only [laws_eqWant, obind, bne_self_eq_false, beq_self_eq_true, beq_bytes, Bool.not_true, cond_false, cond_true]
theorem laws_eqWantS_ok {F : Nat} (hF : 2000000 ≤ F) (x0 : El (.sl Tiii)) (hw : wt (.sl Tiii) x0 ≤ 1048576) : laws_eqWantS F x0 x0 = some (true, ()) := by
  unfold laws_eqWantS
  replace hw : x0.length + (x0.map (wt Tiii)).sum ≤ 1048576 := hw
  have hl : x0.length ≤ 1048576 := by omega
  rw [show ((x0.length : Int) != (x0.length : Int)) = false from by simp, cond_false]
  exact eqS (f := fun a b => laws_eqWant F a b) (fun b hb => laws_eqWant_ok hF b (by have := le_sum (f := wt Tiii) hb; omega)) (K1 := fun y => some (y.1, ())) (K2 := fun _ => some (true, ())) (fun rec x => rfl) (by omega) x0.length 0 F (by omega) (by omega)
theorem laws_eqSource_ok {F : Nat} (hF : 2000000 ≤ F) (x0 : El Tsii) (hw : wt Tsii x0 ≤ 1048576) : laws_eqSource F x0 x0 = some (true, ()) := by
  replace hw : wt .str x0.1 + (wt (.int .i64) x0.2.1 + (wt (.int .i64) x0.2.2.1 + (0))) ≤ 1048576 := hw
  simp only [laws_eqSource, obind, bne_self_eq_false, beq_self_eq_true, beq_bytes, Bool.not_true, cond_false, cond_true]
theorem laws_eqSourceS_ok {F : Nat} (hF : 2000000 ≤ F) (x0 : El (.sl Tsii)) (hw : wt (.sl Tsii) x0 ≤ 1048576) : laws_eqSourceS F x0 x0 = some (true, ()) := by
  unfold laws_eqSourceS
  replace hw : x0.length + (x0.map (wt Tsii)).sum ≤ 1048576 := hw
  have hl : x0.length ≤ 1048576 := by omega
  rw [show ((x0.length : Int) != (x0.length : Int)) = false from by simp, cond_false]
  exact eqS (f := fun a b => laws_eqSource F a b) (fun b hb => laws_eqSource_ok hF b (by have := le_sum (f := wt Tsii) hb; omega)) (K1 := fun y => some (y.1, ())) (K2 := fun _ => some (true, ())) (fun rec x => rfl) (by omega) x0.length 0 F (by omega) (by omega)
theorem laws_eqJob_ok {F : Nat} (hF : 2000000 ≤ F) (x0 : El Tsiii) (hw : wt Tsiii x0 ≤ 1048576) : laws_eqJob F x0 x0 = some (true, ()) := by
  replace hw : wt .str x0.1 + (wt (.int .i64) x0.2.1 + (wt (.int .i64) x0.2.2.1 + (wt (.int .i64) x0.2.2.2.1 + (0)))) ≤ 1048576 := hw
  simp only [laws_eqJob, obind, bne_self_eq_false, beq_self_eq_true, beq_bytes, Bool.not_true, cond_false, cond_true]
theorem laws_eqJobS_ok {F : Nat} (hF : 2000000 ≤ F) (x0 : El (.sl Tsiii)) (hw : wt (.sl Tsiii) x0 ≤ 1048576) : laws_eqJobS F x0 x0 = some (true, ()) := by
  unfold laws_eqJobS
  replace hw : x0.length + (x0.map (wt Tsiii)).sum ≤ 1048576 := hw
  have hl : x0.length ≤ 1048576 := by omega
  rw [show ((x0.length : Int) != (x0.length : Int)) = false from by simp, cond_false]
  exact eqS (f := fun a b => laws_eqJob F a b) (fun b hb => laws_eqJob_ok hF b (by have := le_sum (f := wt Tsiii) hb; omega)) (K1 := fun y => some (y.1, ())) (K2 := fun _ => some (true, ())) (fun rec x => rfl) (by omega) x0.length 0 F (by omega) (by omega)
theorem laws_eqCrew_ok {F : Nat} (hF : 2000000 ≤ F) (x0 : El Tsii) (hw : wt Tsii x0 ≤ 1048576) : laws_eqCrew F x0 x0 = some (true, ()) := by
  replace hw : wt .str x0.1 + (wt (.int .i64) x0.2.1 + (wt (.int .i64) x0.2.2.1 + (0))) ≤ 1048576 := hw
  simp only [laws_eqCrew, obind, bne_self_eq_false, beq_self_eq_true, beq_bytes, Bool.not_true, cond_false, cond_true]
theorem laws_eqCrewS_ok {F : Nat} (hF : 2000000 ≤ F) (x0 : El (.sl Tsii)) (hw : wt (.sl Tsii) x0 ≤ 1048576) : laws_eqCrewS F x0 x0 = some (true, ()) := by
  unfold laws_eqCrewS
  replace hw : x0.length + (x0.map (wt Tsii)).sum ≤ 1048576 := hw
  have hl : x0.length ≤ 1048576 := by omega
  rw [show ((x0.length : Int) != (x0.length : Int)) = false from by simp, cond_false]
  exact eqS (f := fun a b => laws_eqCrew F a b) (fun b hb => laws_eqCrew_ok hF b (by have := le_sum (f := wt Tsii) hb; omega)) (K1 := fun y => some (y.1, ())) (K2 := fun _ => some (true, ())) (fun rec x => rfl) (by omega) x0.length 0 F (by omega) (by omega)
theorem laws_eqFire_ok {F : Nat} (hF : 2000000 ≤ F) (x0 : El Tiii) (hw : wt Tiii x0 ≤ 1048576) : laws_eqFire F x0 x0 = some (true, ()) := by
  replace hw : wt (.int .i64) x0.1 + (wt (.int .i64) x0.2.1 + (wt (.int .i64) x0.2.2.1 + (0))) ≤ 1048576 := hw
  simp only [laws_eqFire, obind, bne_self_eq_false, beq_self_eq_true, beq_bytes, Bool.not_true, cond_false, cond_true]
theorem laws_eqPlan_ok {F : Nat} (hF : 2000000 ≤ F) (x0 : El Tc66acf8c) (hw : wt Tc66acf8c x0 ≤ 1048576) : laws_eqPlan F x0 x0 = some (true, ()) := by
  replace hw : wt T9444c66c x0.1 + (wt (.sl .bool) x0.2.1 + (wt (.sl (.int .i64)) x0.2.2.1 + (wt (.sl Tiii) x0.2.2.2.1 + (wt (.sl Tsii) x0.2.2.2.2.1 + (wt (.int .i64) x0.2.2.2.2.2.1 + (wt (.sl Tsiii) x0.2.2.2.2.2.2.1 + (wt (.sl Tsii) x0.2.2.2.2.2.2.2.1 + (wt (.sl (.int .i64)) x0.2.2.2.2.2.2.2.2.1 + (wt Tiii x0.2.2.2.2.2.2.2.2.2.1 + (wt (.int .i64) x0.2.2.2.2.2.2.2.2.2.2.1 + (0))))))))))) ≤ 1048576 := hw
  have c0 := laws_eqPlant_ok hF x0.1 (by omega)
  have c1 := laws_eqBoolS_ok hF x0.2.1 (by omega)
  have c2 := laws_eqInt64S_ok hF x0.2.2.1 (by omega)
  have c3 := laws_eqWantS_ok hF x0.2.2.2.1 (by omega)
  have c4 := laws_eqSourceS_ok hF x0.2.2.2.2.1 (by omega)
  have c5 := laws_eqJobS_ok hF x0.2.2.2.2.2.2.1 (by omega)
  have c6 := laws_eqCrewS_ok hF x0.2.2.2.2.2.2.2.1 (by omega)
  have c7 := laws_eqInt64S_ok hF x0.2.2.2.2.2.2.2.2.1 (by omega)
  have c8 := laws_eqFire_ok hF x0.2.2.2.2.2.2.2.2.2.1 (by omega)
  simp only [laws_eqPlan, c0, c1, c2, c3, c4, c5, c6, c7, c8, obind, bne_self_eq_false, beq_self_eq_true, beq_bytes, Bool.not_true, cond_false, cond_true]
end Go.Ev.Z
