/- What impl.ReadDecimal answers for every string that is not too long, walked over the contracts of strconv.ParseInt, strings.TrimPrefix and strconv.FormatInt; conditions: the table of powers of ten and the two errors' variables are laid. -/
import Derived.Test.YtaifdjmejglkgaaGreatDoorEvThree
import Derived.Test.YtaifdjmejglkgaaGreatDoorFmt
import Derived.WalkKit
import Derived.ProofKit
namespace Go.Proofs
open Go.RowKit Go.Lib
set_option maxRecDepth 100000
theorem Tryz.bytesBelow (w w' : World) (h : w' = w ∨ ∃ t, w' = Lib.bytesWorld w 5 t) : Below w.heap.size w w' := by
  rcases h with rfl | ⟨t, rfl⟩
  · exact Below.refl _ _
  · exact Lib.bytesWorld_below _ _ _
theorem Tryz.decimal (n : Int) (w : World) (h0 : -9223372036854775808 ≤ n) (h1 : n ≤ 9223372036854775807) (htab : Lib.TabIs Tryz.prog w "internal/strconv.uint64pow10" .u64 Lib.pow10Tab) :
    Calls Tryz.prog 54 #[.int .i64 n] w fun e w' => e = .returned (.string ⟨(Lib.itoa n).toArray⟩) ∧ Below w.heap.size w w' := by
  go_enter Tryz.func54, Tryz.ntmps54
  go_wp2_with (first | (go_at_call 108; refine (Tryz.strconv_FormatInt_10 n h0 h1 _ htab).mono ?_; rintro e w' ⟨rfl, k, os, rfl⟩))
  go_ret
  exact ⟨rfl, Ev.below_grow _ _ _⟩
theorem Tryz.readDecimal_ok (s : ByteArray) (w : World) (hs : s.size ≤ 281474976710656) (htab : ∀ w', Below w.heap.size w w' → Lib.TabIs Tryz.prog w' "internal/strconv.uint64pow10" .u64 Lib.pow10Tab) (v : Int)
    (h : Lib.parseIntB 64 s.data.toList = .ok v) (h0 : -9223372036854775808 ≤ v) (h1 : v ≤ 9223372036854775807) :
    Calls Tryz.prog 157 #[.string s] w fun e w' => e = .returned (.tuple #[.int .i64 (Ev.readDec s.data.toList).1, .bool (Ev.readDec s.data.toList).2]) ∧ Below w.heap.size w w' := by
  have e1 : Ev.readDec s.data.toList = cond (decide (18 < (Lib.trimPrefix s.data.toList [45]).length) || !((Lib.itoa v) == s.data.toList)) (0, false) (v, true) := by unfold Ev.readDec; rw [h]
  rw [e1]
  clear e1
  go_enter Tryz.func157, Tryz.ntmps157
  go_wp2_with (first
    | (go_at_call 176; refine (Tryz.strconv_ParseInt_10_at64_ok s (by omega) v h _).mono ?_; rintro e w' ⟨rfl, hw⟩; have hb := Tryz.bytesBelow _ _ hw; clear hw)
    | (go_at_call 177; refine (Tryz.strings_TrimPrefix _ _ _).mono ?_; rintro e w' ⟨rfl, rfl⟩)
    | (go_at_call 54; refine (Tryz.decimal v _ h0 h1 (htab _ (by assumption))).mono ?_; rintro e w'' ⟨rfl, hb2⟩))
  all_goals
    go_ret2
    refine ⟨?_, by first | exact hb | exact hb.trans (hb2.mono hb.size)⟩
    by_cases c1 : 18 < (Lib.trimPrefix s.data.toList [45]).length <;> by_cases c2 : Lib.itoa v = s.data.toList <;> simp only [ByteArray.toList_eq] at * <;> first
      | (exfalso; omega)
      | (simp [c1, c2]; done)
      | (rw [decide_eq_true c1]; rfl)
      | (rw [decide_eq_false c1, beq_iff_eq.2 c2]; rfl)
      | (rw [decide_eq_false c1, beq_eq_false_iff_ne.2 c2]; rfl)
      | (exfalso; rename_i hx; rcases hx with hx | hx <;> first | omega | (simp [c2] at hx; done))
      | (exfalso; rename_i hx; obtain ⟨hx, hy⟩ := hx; simp [c2] at hy; done)
theorem Tryz.readDecimal_syn (s : ByteArray) (w : World) (hs : s.size ≤ 281474976710656) (h : Lib.parseIntB 64 s.data.toList = Lib.NumEnd.syntax) (ev : Value) (hv : w.cell? ⟨4, 0, none⟩ = some ev) (hev : ev = .nilIface ∨ ∃ te pe, ev = .iface te pe) :
    Calls Tryz.prog 157 #[.string s] w fun e w' => e = .returned (.tuple #[.int .i64 (Ev.readDec s.data.toList).1, .bool (Ev.readDec s.data.toList).2]) ∧ Below w.heap.size w w' := by
  have e1 : Ev.readDec s.data.toList = (0, false) := by unfold Ev.readDec; rw [h]
  rw [e1]
  clear e1
  go_enter Tryz.func157, Tryz.ntmps157
  go_wp2_with (first
    | (go_at_call 176; refine (Tryz.strconv_ParseInt_10_at64_syntax s hs h ev _ hv hev).mono ?_; rintro e w' ⟨N, rfl, hN, hN2, hb⟩))
  go_ret2
  exact ⟨rfl, hb⟩
theorem Tryz.readDecimal_range (s : ByteArray) (w : World) (hs : s.size ≤ 281474976710656) (h : Lib.parseIntB 64 s.data.toList = .range) (ev : Value) (hv : w.cell? ⟨5, 0, none⟩ = some ev) (hev : ev = .nilIface ∨ ∃ te pe, ev = .iface te pe) :
    Calls Tryz.prog 157 #[.string s] w fun e w' => e = .returned (.tuple #[.int .i64 (Ev.readDec s.data.toList).1, .bool (Ev.readDec s.data.toList).2]) ∧ Below w.heap.size w w' := by
  have e1 : Ev.readDec s.data.toList = (0, false) := by unfold Ev.readDec; rw [h]
  rw [e1]
  clear e1
  go_enter Tryz.func157, Tryz.ntmps157
  go_wp2_with (first
    | (go_at_call 176; refine (Tryz.strconv_ParseInt_10_at64_range s hs h ev _ hv hev).mono ?_; rintro e w' ⟨N, rfl, hN, hN2, hb⟩))
  go_ret2
  exact ⟨rfl, hb⟩
theorem Tryz.readDecimal (s : ByteArray) (w : World) (hs : s.size ≤ 281474976710656) (htab : ∀ w', Below w.heap.size w w' → Lib.TabIs Tryz.prog w' "internal/strconv.uint64pow10" .u64 Lib.pow10Tab)
    (es : ∃ ev, w.cell? ⟨4, 0, none⟩ = some ev ∧ (ev = .nilIface ∨ ∃ te pe, ev = .iface te pe)) (er : ∃ ev, w.cell? ⟨5, 0, none⟩ = some ev ∧ (ev = .nilIface ∨ ∃ te pe, ev = .iface te pe)) :
    Calls Tryz.prog 157 #[.string s] w fun e w' => e = .returned (.tuple #[.int .i64 (Ev.readDec s.data.toList).1, .bool (Ev.readDec s.data.toList).2]) ∧ Below w.heap.size w w' := by
  rcases h : Lib.parseIntB 64 s.data.toList with v | _ | _
  · obtain ⟨h0, h1⟩ := Ev.parse_bound h
    exact Tryz.readDecimal_ok s w hs htab v h h0 h1
  · obtain ⟨ev, hv, hev⟩ := es
    exact Tryz.readDecimal_syn s w hs h ev hv hev
  · obtain ⟨ev, hv, hev⟩ := er
    exact Tryz.readDecimal_range s w hs h ev hv hev
end Go.Proofs
