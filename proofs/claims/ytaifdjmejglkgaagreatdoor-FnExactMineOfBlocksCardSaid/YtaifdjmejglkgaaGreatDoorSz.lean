/- A part of the proof: lemmas that the law's theorem uses; their conditions stand in each theorem. -/
import Derived.Test.YtaifdjmejglkgaaGreatDoorDefs
import Derived.Test.YtaifdjmejglkgaaGreatDoorEvThree
namespace Go.Ev.Z
set_option maxRecDepth 100000
theorem laws_szBlock_ok {F : Nat} (hF : 2000000 ≤ F) (x0 : El Tsss) (hf : FitsEl Tsss x0) (x1 : Int) (h0 : 0 ≤ x1) (h1 : x1 ≤ 1048576) : laws_szBlock F x0 x1 = some (if (wt Tsss x0 : Int) ≤ x1 then x1 - wt Tsss x0 else -1, ()) := by
  have hw : wt Tsss x0 = x0.1.size + (x0.2.1.size + (x0.2.2.1.size + 0)) := by first | (simp only [wt]; done) | (simp only [wt]; omega)
  rw [hw]
  unfold laws_szBlock
  refine sz_str (k := fun v => cond (decide ((IntKind.i64.wrap (v - (x0.2.1.size : Int))) < (0 : Int))) (some ((-1 : Int), ())) (cond (decide ((IntKind.i64.wrap ((IntKind.i64.wrap (v - (x0.2.1.size : Int))) - (x0.2.2.1.size : Int))) < (0 : Int))) (some ((-1 : Int), ())) (some (IntKind.i64.wrap ((IntKind.i64.wrap (v - (x0.2.1.size : Int))) - (x0.2.2.1.size : Int)), ())))) hf.1 (by omega) (by omega) (fun q => ?_)
  refine sz_str (k := fun v => cond (decide ((IntKind.i64.wrap (v - (x0.2.2.1.size : Int))) < (0 : Int))) (some ((-1 : Int), ())) (some (IntKind.i64.wrap (v - (x0.2.2.1.size : Int)), ()))) hf.2.1 (by omega) (by omega) (fun q => ?_)
  refine sz_str (k := fun v => some (v, ())) hf.2.2.1 (by omega) (by omega) (fun q => ?_)
  refine sz_end (by omega)
theorem laws_szBlockS_ok {F : Nat} (hF : 2000000 ≤ F) (x0 : El (.sl Tsss)) (hf : FitsEl (.sl Tsss) x0) (x1 : Int) (h0 : 0 ≤ x1) (h1 : x1 ≤ 1048576) : laws_szBlockS F x0 x1 = some (if (wt (.sl Tsss) x0 : Int) ≤ x1 then x1 - wt (.sl Tsss) x0 else -1, ()) := by
  unfold laws_szBlockS
  exact (szS_top (f := fun b m => laws_szBlock F b m) (wf := wt Tsss) (fun b hb m q0 q1 => laws_szBlock_ok hF b (hf.2 b hb) m q0 q1) (fun rec x => rfl) hF hf.1 h0 h1)
theorem laws_toBlock_ok {F : Nat} (hF : 2000000 ≤ F) (x0 : El Tsss) (hw : wt Tsss x0 ≤ 1048576) : laws_toBlock F x0 = some (x0, ()) := by
  rfl
theorem laws_toBlockS_ok {F : Nat} (hF : 2000000 ≤ F) (x0 : El (.sl Tsss)) (hw : wt (.sl Tsss) x0 ≤ 1048576) : laws_toBlockS F x0 = some (x0, ()) := by
  unfold laws_toBlockS
  replace hw : x0.length + (x0.map (wt Tsss)).sum ≤ 1048576 := hw
  have hl : x0.length ≤ 1048576 := by omega
  rw [gd (decide_eq_true (by omega)), gd (decide_eq_true (by omega)), gd (decide_eq_true (by omega)), gd (decide_eq_true (by omega))]
  exact toS (f := fun b => laws_toBlock F b) (fun b hb => laws_toBlock_ok hF b (by have := le_sum (f := wt Tsss) hb; omega)) (K1 := fun y => some (y.1, ())) (fun rec x => rfl) (by omega) x0.length 0 _ F (by omega) (by omega) (by simp) rfl
theorem laws_eqAirway_ok {F : Nat} (hF : 2000000 ≤ F) (x0 : El Tsiiiiii) (hw : wt Tsiiiiii x0 ≤ 1048576) : laws_eqAirway F x0 x0 = some (true, ()) := by
  replace hw : wt .str x0.1 + (wt (.int .i64) x0.2.1 + (wt (.int .i64) x0.2.2.1 + (wt (.int .i64) x0.2.2.2.1 + (wt (.int .i64) x0.2.2.2.2.1 + (wt (.int .i64) x0.2.2.2.2.2.1 + (wt (.int .i64) x0.2.2.2.2.2.2.1 + (0))))))) ≤ 1048576 := hw
  simp only [laws_eqAirway, obind, bne_self_eq_false, beq_self_eq_true, beq_bytes, Bool.not_true, cond_false, cond_true]
theorem laws_eqAirwayS_ok {F : Nat} (hF : 2000000 ≤ F) (x0 : El (.sl Tsiiiiii)) (hw : wt (.sl Tsiiiiii) x0 ≤ 1048576) : laws_eqAirwayS F x0 x0 = some (true, ()) := by
  unfold laws_eqAirwayS
  replace hw : x0.length + (x0.map (wt Tsiiiiii)).sum ≤ 1048576 := hw
  have hl : x0.length ≤ 1048576 := by omega
  rw [show ((x0.length : Int) != (x0.length : Int)) = false from by simp, cond_false]
  exact eqS (f := fun a b => laws_eqAirway F a b) (fun b hb => laws_eqAirway_ok hF b (by have := le_sum (f := wt Tsiiiiii) hb; omega)) (K1 := fun y => some (y.1, ())) (K2 := fun _ => some (true, ())) (fun rec x => rfl) (by omega) x0.length 0 F (by omega) (by omega)
theorem laws_eqMine_ok {F : Nat} (hF : 2000000 ≤ F) (x0 : El TiSqsiiiiiip) (hw : wt TiSqsiiiiiip x0 ≤ 1048576) : laws_eqMine F x0 x0 = some (true, ()) := by
  replace hw : wt (.int .i64) x0.1 + (wt (.sl Tsiiiiii) x0.2.1 + (0)) ≤ 1048576 := hw
  have c0 := laws_eqAirwayS_ok hF x0.2.1 (by omega)
  simp only [laws_eqMine, c0, obind, bne_self_eq_false, beq_self_eq_true, beq_bytes, Bool.not_true, cond_false, cond_true]
theorem laws_eqBlock_ok {F : Nat} (hF : 2000000 ≤ F) (x0 : El Tsss) (hw : wt Tsss x0 ≤ 1048576) : laws_eqBlock F x0 x0 = some (true, ()) := by
  replace hw : wt .str x0.1 + (wt .str x0.2.1 + (wt .str x0.2.2.1 + (0))) ≤ 1048576 := hw
  simp only [laws_eqBlock, obind, bne_self_eq_false, beq_self_eq_true, beq_bytes, Bool.not_true, cond_false, cond_true]
theorem laws_eqBlockS_ok {F : Nat} (hF : 2000000 ≤ F) (x0 : El (.sl Tsss)) (hw : wt (.sl Tsss) x0 ≤ 1048576) : laws_eqBlockS F x0 x0 = some (true, ()) := by
  unfold laws_eqBlockS
  replace hw : x0.length + (x0.map (wt Tsss)).sum ≤ 1048576 := hw
  have hl : x0.length ≤ 1048576 := by omega
  rw [show ((x0.length : Int) != (x0.length : Int)) = false from by simp, cond_false]
  exact eqS (f := fun a b => laws_eqBlock F a b) (fun b hb => laws_eqBlock_ok hF b (by have := le_sum (f := wt Tsss) hb; omega)) (K1 := fun y => some (y.1, ())) (K2 := fun _ => some (true, ())) (fun rec x => rfl) (by omega) x0.length 0 F (by omega) (by omega)
end Go.Ev.Z
