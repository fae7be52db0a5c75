/- Regions are sound. -/
import Derived.Test.YtbkcabkfbaikkaaGreatDoorEvTwo
import Derived.ChangeShapes
import Derived.WideShapes
import Derived.IntWalk
import Derived.Lib.LaidTab
import Derived.Lib.ItoaNum
import Derived.Sort.Grow
import Derived.Deep.Draws
import Derived.Lib.SplitLaws
import Derived.Lib.Join
import Derived.Lib.ParseIntBTie
import Derived.Lib.Strings
import Derived.LaidLaws
import Derived.Shelf.Vars
import Derived.ChangeBears2
import Derived.SizedLaws
namespace Go.Ev
section
variable {tg : Nat → Value} {G : GP} {C : Ctx G} {P : Program} {E : Env} {β : Type} {ops : Array Oper}

theorem yielded_bool {st : St} {a : Act} {w : World} {fps : Nat → List Nat} (h : Inv tg C st a w fps []) {g d : Nat} {b : Bool} (hd : dstOf ops g = some d) (hs : st.at d = .v .bool .no b) : yielded ops a.tmps g = some b := by
  have hr := h.rep d
  rw [hs] at hr
  obtain ⟨cs, hv, hrp⟩ := hr
  obtain ⟨rfl, _⟩ := hrp
  have hv' : a.tmps.getD d undef = .bool b := hv
  have hlt : d < a.tmps.size := by rw [h.size]; exact at_lt (by rw [hs]; simp)
  have : a.tmps[d]? = some (.bool b) := by
    rw [Array.getElem?_eq_getElem hlt]
    simpa [Array.getD, hlt] using hv'
  unfold yielded
  have hd' : (ops[g]?).bind (·.dst) = some d := hd
  rw [hd']
  simp [this]
theorem yielded_none {st : St} {a : Act} {w : World} {fps : Nat → List Nat} (h : Inv tg C st a w fps []) {g d : Nat} (hd : dstOf ops g = some d) (hs : st.at d = .tup []) : yielded ops a.tmps g = none := by
  have hr := h.rep d
  rw [hs] at hr
  obtain ⟨vs, hv, hrp⟩ := hr
  obtain ⟨rfl, _⟩ := hrp
  have hv' : a.tmps.getD d undef = .tuple #[] := hv
  have hlt : d < a.tmps.size := by rw [h.size]; exact at_lt (by rw [hs]; simp)
  have : a.tmps[d]? = some (.tuple #[]) := by
    rw [Array.getElem?_eq_getElem hlt]
    simpa [Array.getD, hlt] using hv'
  unfold yielded
  have hd' : (ops[g]?).bind (·.dst) = some d := hd
  rw [hd']
  simp [this]

theorem wanted_of {st : St} {a : Act} {w : World} {fps : Nat → List Nat} (h : Inv tg C st a w fps []) {o : Oper} {b : Bool} (hg : guardSt ops st o = some b) : Region.wanted o (yielded ops a.tmps) = b := by
  unfold guardSt at hg
  unfold Region.wanted
  split at hg
  · rename_i e; rw [e]; simp at hg; subst hg; rfl
  · rename_i g want e
    rw [e]
    split at hg
    · rename_i d hd
      split at hg
      · rename_i c hs
        simp at hg
        subst hg
        simp only [yielded_bool h hd hs]
        cases c <;> cases want <;> rfl
      · rename_i hs
        simp at hg
        subst hg
        simp only [yielded_none h hd hs]
        rfl
      · cases hg
    · cases hg

/-- The first operation. -/
theorem head_ok (hE : EnvOk G P E) {st : St} {a : Act} {w : World} {fps : Nat → List Nat} (h : Inv tg C st a w fps []) {draw : Option (Array Nat)} {i : Nat} {is : List Nat} {K : St → Option β} {r : β} (he : execOps E ops draw (i :: is) st K = some r)
    {next : Act → World → Prop} {Q : Exit → Act → World → Prop} (hn : ∀ st' a' w' fps', st'.length = st.length → Inv tg C st' a' w' fps' [] → execOps E ops draw is st' K = some r → next a' w') : wpOp P ops Q i next a w := by
  cases ho : ops[i]? with
  | none => simp [execOps, ho] at he
  | some o =>
    simp only [execOps, ho, guarded_eq] at he
    unfold wpOp
    simp only [ho]
    cases hg : guardSt ops st o with
    | none => rw [hg] at he; cases he
    | some b =>
      rw [hg] at he
      have hw := wanted_of h hg
      rw [hw]
      cases b with
      | true =>
        simp only [if_true]
        replace he := (guardB_some he).2
        left
        have quiet : (evQ E (opd st.at) o fun a => execOps E ops draw is (put st o.dst a) K) = some r → o.wp P a w next Q := by
          intro he
          obtain ⟨av, hk, hr, hy⟩ := evQ_sound hE h o he
          refine hy next Q fun v w' fx hb hnx hfx hrep => ?_
          have h1 := (h.more hb hnx hfx)
          simp only [List.append_nil] at h1
          obtain ⟨fps', h2⟩ := h1.put hrep hr o.dst
          exact hn _ _ _ _ (by rw [← h2.size, ← h.size]; cases o.dst <;> simp [Act.put]) h2 hk
        unfold evOpX at he
        split at he
        · exact quiet he
        unfold evOp at he
        cases hq : isQuiet E st o with
        | true =>
          rw [hq] at he
          exact quiet he
        | false =>
          rw [hq] at he
          obtain ⟨st1, av, hk, hl, hm⟩ := evM_sound hE h o he
          refine hm next Q fun st2 a2 w2 fps2 e2 hs2 h2 => ?_
          subst e2
          exact hn _ _ _ _ (by rw [← h2.size, hs2, hl]) h2 hk
      | false =>
        simp only [Bool.false_eq_true, if_false]
        replace he := (guardB_some he).2
        obtain ⟨fps', h2⟩ := h.put (av := .tup []) (v := undef) ⟨[], rfl, rfl, rfl⟩ (by simp [refsOf]) o.dst
        exact hn _ _ _ _ (by rw [← h2.size, ← h.size]; cases o.dst <;> simp [Act.put]) h2 he

/-- A region in its order. -/
theorem ops_ok (hE : EnvOk G P E) {draw : Option (Array Nat)} {K : St → Option β} {r : β} {Q : Exit → Act → World → Prop} : ∀ {l : List Nat} {st : St} {a : Act} {w : World} {fps : Nat → List Nat},
    Inv tg C st a w fps [] → execOps E ops draw l st K = some r → (∀ st' a' w' fps', st'.length = st.length → Inv tg C st' a' w' fps' [] → K st' = some r → Q .normal a' w') → wpOps P ops Q l a w
  | [], st, a, w, fps, h, he, hn => hn st a w fps rfl h he
  | i :: is, st, a, w, fps, h, he, hn => by
    rw [wpOps_cons]
    exact head_ok hE h he fun st' a' w' fps' hl h' he' => ops_ok hE h' he' fun st2 a2 w2 fps2 hl2 h2 hk => hn st2 a2 w2 fps2 (hl2.trans hl) h2 hk

/-! The masks -/
def maskF (acc : Array Nat) (o : Oper) : Nat := o.after.foldl (fun s e => if Region.binds .any e then s ||| 2 ^ e.on ||| acc.getD e.on 0 else s) 0

theorem before_eq (ops : Array Oper) : Region.before ops = ops.toList.foldl (fun acc o => acc.push (maskF acc o)) #[] := by
  unfold Region.before
  rw [← Array.foldl_toList]
  rfl

theorem fold_push : ∀ (l : List Oper) (acc : Array Nat), let res := l.foldl (fun acc o => acc.push (maskF acc o)) acc
    (∀ k, k < acc.size → res.getD k 0 = acc.getD k 0) ∧ ∀ k o, l[k]? = some o → ∃ acc' : Array Nat, acc'.size = acc.size + k ∧ res.getD (acc.size + k) 0 = maskF acc' o ∧ ∀ m, m < acc'.size → acc'.getD m 0 = res.getD m 0
  | [], acc => by simp
  | o :: l, acc => by
    obtain ⟨h1, h2⟩ := fold_push l (acc.push (maskF acc o))
    simp only [List.foldl_cons]
    have hp : ∀ k, k < acc.size → (acc.push (maskF acc o)).getD k 0 = acc.getD k 0 := by
      intro k hk
      rw [Array.getD_eq_getD_getElem?, Array.getD_eq_getD_getElem?, Array.getElem?_push_lt hk, Array.getElem?_eq_getElem hk]
    refine ⟨fun k hk => (h1 k (by simp; omega)).trans (hp k hk), fun k o' hk => ?_⟩
    cases k with
    | zero =>
      simp at hk
      subst hk
      refine ⟨acc, rfl, ?_, fun m hm => ((h1 m (by simp; omega)).trans (hp m hm)).symm⟩
      have := h1 acc.size (by simp)
      rw [Nat.add_zero, this, Array.getD_eq_getD_getElem?, Array.getElem?_push_size]
      rfl
    | succ k =>
      obtain ⟨acc', q1, q2, q3⟩ := h2 k o' (by simpa using hk)
      refine ⟨acc', by rw [q1]; simp; omega, ?_, q3⟩
      rw [← q2]
      congr 1
      simp; omega

theorem mask_bit {acc : Array Nat} {j : Nat} : ∀ (l : List Edge) (s : Nat), (l.foldl (fun s e => if Region.binds .any e then s ||| 2 ^ e.on ||| acc.getD e.on 0 else s) s).testBit j = true →
    s.testBit j = true ∨ ∃ e, e ∈ l ∧ Region.binds .any e = true ∧ (j = e.on ∨ (acc.getD e.on 0).testBit j = true)
  | [], s, h => .inl h
  | e :: l, s, h => by
    simp only [List.foldl_cons] at h
    rcases mask_bit l _ h with h | ⟨e', h1, h2, h3⟩
    · cases hb : Region.binds .any e with
      | false => rw [hb] at h; exact .inl (by simpa using h)
      | true =>
        rw [hb] at h
        simp only [if_true, Nat.testBit_or, Bool.or_eq_true] at h
        rcases h with (h | h) | h
        · exact .inl h
        · rw [Nat.testBit_two_pow] at h
          exact .inr ⟨e, by simp, hb, .inl (by simpa using (of_decide_eq_true h).symm)⟩
        · exact .inr ⟨e, by simp, hb, .inr h⟩
    · exact .inr ⟨e', by simp [h1], h2, h3⟩

theorem mask_spec {i j : Nat} {o : Oper} (ho : ops[i]? = some o) (h : ((Region.before ops).getD i 0).testBit j = true) :
    ∃ e, e ∈ o.after ∧ Region.binds .any e = true ∧ (j = e.on ∨ (e.on < i ∧ ((Region.before ops).getD e.on 0).testBit j = true)) := by
  rw [before_eq] at h ⊢
  obtain ⟨_, h2⟩ := fold_push ops.toList #[]
  obtain ⟨acc', q1, q2, q3⟩ := h2 i o (by rw [Array.getElem?_toList]; exact ho)
  simp only [Array.size_empty, Nat.zero_add] at q1 q2
  rw [q2] at h
  unfold maskF at h
  rw [← Array.foldl_toList] at h
  rcases mask_bit _ _ h with h | ⟨e, h1, h3, h4⟩
  · simp at h
  · refine ⟨e, Array.mem_toList_iff.1 h1, h3, h4.imp id fun h5 => ?_⟩
    have hlt : e.on < acc'.size := by
      rcases Nat.lt_or_ge e.on acc'.size with h | h
      · exact h
      · rw [Array.getD_eq_getD_getElem?, Array.getElem?_eq_none h] at h5
        simp at h5
    exact ⟨by omega, by rw [← q3 _ hlt]; exact h5⟩

def Closed (ops : Array Oper) (listed : Array Bool) : Prop := ∀ i o, ops[i]? = some o → listed.getD i false = true → ∀ e, e ∈ o.after → Region.binds .any e = true → listed.getD e.on false = true

theorem reach {listed : Array Bool} (hs : listed.size = ops.size) (hc : Closed ops listed) : ∀ (n i : Nat) (o : Oper), i < n → ops[i]? = some o → (∀ e, e ∈ o.after → Region.binds .any e = true → listed.getD e.on false = true) →
    ∀ j, ((Region.before ops).getD i 0).testBit j = true → listed.getD j false = true
  | 0, _, _, hi, _, _, _, _ => by omega
  | n + 1, i, o, hi, ho, hl, j, hj => by
    obtain ⟨e, h1, h2, h3⟩ := mask_spec ho hj
    have he := hl e h1 h2
    rcases h3 with rfl | ⟨h4, h5⟩
    · exact he
    · have hlt : e.on < ops.size := by
        rcases Nat.lt_or_ge e.on ops.size with h | h
        · exact h
        · rw [Array.getD_eq_getD_getElem?, Array.getElem?_eq_none (by omega)] at he
          simp at he
      have hoe : ops[e.on]? = some ops[e.on] := Array.getElem?_eq_getElem hlt
      exact reach hs hc n e.on _ (by omega) hoe (fun e' h' hb' => hc e.on _ hoe he e' h' hb') j h5

def restOf (ops : Array Oper) (listed : Array Bool) : List Nat := (List.range ops.size).filter fun i => !listed.getD i true

theorem getD_tf {listed : Array Bool} {i : Nat} (h : i < listed.size) : listed.getD i true = listed.getD i false := by
  simp [Array.getD, h]

theorem any_ok (hE : EnvOk G P E) {K : St → Option β} {r : β} {Q : Exit → Act → World → Prop} : ∀ {fuel : Nat} {listed : Array Bool} {st : St} {a : Act} {w : World} {fps : Nat → List Nat},
    listed.size = ops.size → (restOf ops listed).length ≤ fuel → Closed ops listed → Inv tg C st a w fps [] → execOps E ops (some (Region.before ops)) (restOf ops listed) st K = some r →
    (∀ st' a' w' fps', st'.length = st.length → Inv tg C st' a' w' fps' [] → K st' = some r → Q .normal a' w') → wpAny P .any ops Q fuel listed a w := by
  intro fuel
  -- what is ready is among the rest; the first of the rest is ready
  have hrdy : ∀ (listed : Array Bool) i, i ∈ Region.ready .any ops listed → i ∈ restOf ops listed ∧ ∃ o, ops[i]? = some o ∧ ∀ e, e ∈ o.after → Region.binds .any e = true → listed.getD e.on false = true := by
    intro listed i hi
    unfold Region.ready at hi
    obtain ⟨h1, h2⟩ := List.mem_filter.1 hi
    simp only [Bool.and_eq_true] at h2
    refine ⟨List.mem_filter.2 ⟨h1, h2.1⟩, ?_⟩
    cases ho : ops[i]? with
    | none => have := h2.2; rw [ho] at this; simp at this
    | some o =>
      have h3 := h2.2
      rw [ho] at h3
      simp only [Option.map_some, Option.getD_some] at h3
      refine ⟨o, rfl, fun e he hb => ?_⟩
      have := Array.all_eq_true_iff_forall_mem.1 h3 e he
      simpa [hb] using this
  have hfirst : ∀ (listed : Array Bool) (st : St) i is, listed.size = ops.size → restOf ops listed = i :: is → execOps E ops (some (Region.before ops)) (i :: is) st K = some r → i ∈ Region.ready .any ops listed := by
    intro listed st i is hs hr he
    have hmem : i ∈ restOf ops listed := by rw [hr]; simp
    obtain ⟨h1, h2⟩ := List.mem_filter.1 hmem
    refine List.mem_filter.2 ⟨h1, ?_⟩
    cases ho : ops[i]? with
    | none => simp [execOps, ho] at he
    | some o =>
      have hd := head_draw ho he
      simp only [Bool.and_eq_true]
      refine ⟨h2, ?_⟩
      simp only [Option.map_some, Option.getD_some]
      refine Array.all_eq_true_iff_forall_mem.2 fun e hem => ?_
      unfold drawOk at hd
      simp only [Bool.and_eq_true] at hd
      have hlt := List.all_eq_true.1 hd.1 e (Array.mem_toList_iff.2 hem)
      cases hbe : Region.binds .any e with
      | false => simp
      | true =>
      rw [hbe] at hlt
      have hlt : e.on < i := by simpa using hlt
      have hi : i < ops.size := by simpa using h1
      cases hl : listed.getD e.on false with
      | true => simp
      | false =>
        have hm : e.on ∈ restOf ops listed := List.mem_filter.2 ⟨by simp; omega, by rw [getD_tf (by omega), hl]; rfl⟩
        rw [hr] at hm
        have hsorted : (restOf ops listed).Pairwise (· < ·) := List.Pairwise.filter _ List.pairwise_lt_range
        rw [hr] at hsorted
        rcases List.mem_cons.1 hm with e1 | e1
        · omega
        · have := (List.pairwise_cons.1 hsorted).1 _ e1
          omega
  induction fuel with
  | zero =>
    intro listed st a w fps hs hl hc h he hn
    have h0 : restOf ops listed = [] := List.length_eq_zero_iff.1 (by omega)
    refine ⟨?_, ?_⟩
    · cases hr : Region.ready .any ops listed with
      | nil => rfl
      | cons i l =>
        have := (hrdy listed i (by rw [hr]; simp)).1
        rw [h0] at this
        simp at this
    · rw [h0] at he
      exact hn st a w fps rfl h he
  | succ fuel ih =>
    intro listed st a w fps hs hl hc h he hn
    refine ⟨fun hr => ?_, fun i hi => ?_⟩
    · cases hrest : restOf ops listed with
      | nil => rw [hrest] at he; exact hn st a w fps rfl h he
      | cons i is =>
        rw [hrest] at he
        have := hfirst listed st i is hs hrest he
        rw [hr] at this
        simp at this
    · obtain ⟨hm, o, ho, hpre⟩ := hrdy listed i hi
      obtain ⟨pre, post, hsplit⟩ := List.append_of_mem hm
      have hsorted : (restOf ops listed).Pairwise (· < ·) := List.Pairwise.filter _ List.pairwise_lt_range
      have hnew : restOf ops (listed.setIfInBounds i true) = pre ++ post := by
        have hnd : (pre ++ i :: post).Nodup := by rw [← hsplit]; exact hsorted.imp (fun h => Nat.ne_of_lt h)
        have : restOf ops (listed.setIfInBounds i true) = (restOf ops listed).filter (fun x => !(x == i)) := by
          unfold restOf
          rw [List.filter_filter]
          apply List.filter_congr
          intro x hx
          have hx : x < ops.size := by simpa using hx
          rw [Array.getD_eq_getD_getElem?, Array.getD_eq_getD_getElem?, Array.getElem?_setIfInBounds]
          by_cases hxi : i = x
          · subst hxi; simp [hs, hx]
          · have : ¬ x = i := fun e => hxi e.symm
            simp [hxi, this]
        rw [this, hsplit, List.filter_append, List.filter_cons]
        simp only [beq_self_eq_true, Bool.not_true, Bool.false_eq_true, if_false]
        obtain ⟨n1, n2, n3⟩ := List.nodup_append.1 hnd
        have n4 := (List.nodup_cons.1 n2).1
        rw [List.filter_eq_self.2, List.filter_eq_self.2]
        · intro x hx; simp; rintro rfl; exact n4 hx
        · intro x hx; simp; rintro rfl; exact n3 x hx x (by simp) rfl
      rw [hsplit] at he hsorted
      have hpreq : ∀ j, j ∈ pre → j < i ∧ ordered (Region.before ops) i j = false := by
        intro j hj
        have hlt : j < i := (List.pairwise_append.1 hsorted).2.2 j hj i (by simp)
        refine ⟨hlt, ?_⟩
        cases hb : ordered (Region.before ops) i j with
        | false => rfl
        | true =>
          unfold ordered at hb
          rw [Nat.max_eq_left (by omega), Nat.min_eq_right (by omega)] at hb
          have hlj := reach hs hc (i + 1) i o (by omega) ho hpre j hb
          have hjm : j ∈ restOf ops listed := by rw [hsplit]; simp [hj]
          have := (List.mem_filter.1 hjm).2
          have hjl : j < listed.size := by
            rw [hs]
            have := (List.mem_filter.1 hjm).1
            simpa using this
          rw [getD_tf hjl, hlj] at this
          simp at this
      have hf := front hE.natE ho hpreq he
      refine head_ok hE h hf fun st' a' w' fps' hl' h' he' => ?_
      refine ih (by simpa using hs) ?_ ?_ h' (by rw [hnew]; exact he') fun st2 a2 w2 fps2 hl2 h2 hk => hn st2 a2 w2 fps2 (hl2.trans hl') h2 hk
      · rw [hnew]
        rw [hsplit] at hl
        simp at hl ⊢
        omega
      · intro k ok hok hk e hem hb
        have hkk : ∀ x, (listed.setIfInBounds i true).getD x false = if i = x ∧ x < listed.size then true else listed.getD x false := by
          intro x
          rw [Array.getD_eq_getD_getElem?, Array.getD_eq_getD_getElem?, Array.getElem?_setIfInBounds]
          by_cases hix : i = x
          · subst hix
            by_cases hlt : i < listed.size <;> simp [hlt]
          · simp [hix]
        rw [hkk] at hk ⊢
        have old : listed.getD e.on false = true := by
          split at hk
          · rename_i hki
            obtain ⟨rfl, _⟩ := hki
            rw [ho] at hok
            simp at hok
            subst hok
            exact hpre e hem hb
          · exact hc k ok hok hk e hem hb
        split
        · rfl
        · exact old

/-- A region that draws its order. -/
theorem put_self {a : Act} (d : Nat) : a.put (some d) (a.tmps.getD d undef) = a := by
  obtain ⟨t, ds⟩ := a
  simp only [Act.put, Act.mk.injEq, and_true]
  apply Array.ext
  · simp
  · intro i h1 h2
    rw [Array.getElem_setIfInBounds h2]
    split
    · rename_i e; subst e; simp [Array.getD, h2]
    · rfl
theorem settle1_ok {st : St} {a : Act} {w : World} {fps : Nat → List Nat} (h : Inv tg C st a w fps []) (o : Oper) : ∃ fps', (settle1 st o).length = st.length ∧ Inv tg C (settle1 st o) a w fps' [] := by
  unfold settle1
  split
  · rename_i d _ _
    split
    · split
      · rename_i st1 r ht
        obtain ⟨fps1, f, cs, h1, h2, h3, _, h4, h5⟩ := h.takeOp ht
        simp only [List.nil_append] at h1 h5
        obtain ⟨fps', h'⟩ := h1.put (av := .v r.t r.φ r.x) (v := mkVal r.t cs) ⟨cs, rfl, h5⟩ (by simp [refsOf]) (some d)
        rw [← h4] at h'
        have h4' : a.put (some d) (a.eval (.tmp d)) = a := put_self d
        rw [h4'] at h'
        exact ⟨fps', by rw [← h'.size, h.size], h'⟩
      · exact ⟨fps, rfl, h⟩
    · exact ⟨fps, rfl, h⟩
  · exact ⟨fps, rfl, h⟩
theorem settleL_ok {a : Act} {w : World} : ∀ (l : List Oper) {st : St} {fps : Nat → List Nat}, Inv tg C st a w fps [] → ∃ fps', (l.foldl settle1 st).length = st.length ∧ Inv tg C (l.foldl settle1 st) a w fps' []
  | [], st, fps, h => ⟨fps, rfl, h⟩
  | o :: l, st, fps, h => by
    obtain ⟨f1, h1, h2⟩ := settle1_ok h o
    obtain ⟨f2, h3, h4⟩ := settleL_ok l h2
    exact ⟨f2, h3.trans h1, h4⟩
theorem settle_ok {st : St} {a : Act} {w : World} {fps : Nat → List Nat} (h : Inv tg C st a w fps []) (ops : Array Oper) : ∃ fps', (settle ops st).length = st.length ∧ Inv tg C (settle ops st) a w fps' [] := settleL_ok ops.toList h

theorem draw_ok (hE : EnvOk G P E) {K : St → Option β} {r : β} {Q : Exit → Act → World → Prop} {st : St} {a : Act} {w : World} {fps : Nat → List Nat} (h : Inv tg C st a w fps []) (he : execOps E ops (some (Region.before ops)) (List.range ops.size) st K = some r)
    (hn : ∀ st' a' w' fps', st'.length = st.length → Inv tg C st' a' w' fps' [] → K st' = some r → Q .normal a' w') : wpAny P .any ops Q ops.size (Array.replicate ops.size false) a w := by
  have hrest : restOf ops (Array.replicate ops.size false) = List.range ops.size := by
    unfold restOf
    apply List.filter_eq_self.2
    intro x hx
    have hx : x < ops.size := by simpa using hx
    simp [Array.getD, hx]
  refine any_ok hE (by simp) (by rw [hrest]; simp) ?_ h (by rw [hrest]; exact he) hn
  intro i o ho hi
  simp [Array.getD] at hi
end
end Go.Ev
/-
  Where ways meet: what is known is forgotten but for the shapes.
-/
namespace Go.Ev

/-- One slot. -/
def Fits : Sh → AV → AV → Prop
  | .dead, _, ev => ev = .dead
  | .val t φ, av, ev => (∃ φ' y, av = .v t φ' y ∧ ev = .v t φ y ∧ weaker t φ φ' = true) ∨ ∃ e, t = .sl e ∧ av = .nil ∧ ev = .v (.sl e) φ [] ∧ weaker (.sl e) φ (fullFl (.sl e)) = true
  | .box g t φ, av, ev => ∃ g' φ' y, av = .bx g' t φ' y ∧ ev = .bx g t φ y ∧ weaker t φ φ' = true ∧ ∀ q, g = some q → g' = some q
  | .al s p, av, ev => av = .al s p ∧ ev = .al s p
  | .pl s p, av, ev => av = .pl s p ∧ ev = .pl s p
  | .fn f cs, av, ev => av = .fn f (cs.map fun c => .pl c.1 c.2) ∧ ev = av
  | .nil, av, ev => av = .nil ∧ ev = .nil

theorem pathEq_eq : ∀ {p q : List Bool}, pathEq p q = true → p = q
  | [], [], _ => rfl
  | a :: p, b :: q, h => by
    simp only [pathEq, Bool.and_eq_true, beq_iff_eq] at h
    rw [h.1, pathEq_eq h.2]
  | [], _ :: _, h => by simp [pathEq] at h
  | _ :: _, [], h => by simp [pathEq] at h
theorem at_cons_zero (a : AV) (st : St) : St.at (a :: st) 0 = a := rfl
theorem at_cons_succ (a : AV) (st : St) (s : Nat) : St.at (a :: st) (s + 1) = St.at st s := by simp [St.at]

/-- A tool: one more slot. -/
theorem fits_cons {a : Sh} {l : List Sh} {av ev : AV} {st es : St} (h : Fits a av ev) (ih : ∀ s, Fits (l.getD s .dead) (St.at st s) (St.at es s)) : ∀ s, Fits ((a :: l).getD s .dead) (St.at (av :: st) s) (St.at (ev :: es) s)
  | 0 => h
  | s + 1 => by rw [at_cons_succ, at_cons_succ]; simpa using ih s

theorem decode_fits : ∀ {l : List Sh} {st : St} {x : Vars l}, decode l st = some x → l.length = st.length → ∀ s, Fits (l.getD s .dead) (st.at s) (St.at (encode l x) s)
  | [], st, x, _, _, s => by simp [St.at, encode, Fits]
  | .dead :: r, av :: st, x, h, hl, s => by
    exact fits_cons (a := .dead) rfl (decode_fits (l := r) (st := st) (x := x) h (by simpa using hl)) s
  | .val t φ :: r, av :: st, x, h, hl, s => by
    simp only [decode] at h
    split at h
    · rename_i u φ' z _ e
      simp only [List.cons.injEq] at e
      obtain ⟨rfl, rfl⟩ := e
      split at h
      · rename_i y z' hy hw hd
        simp at h
        subst h
        obtain ⟨rfl, rfl⟩ := castTo_some hy
        exact fits_cons (a := .val u φ) (.inl ⟨φ', _, rfl, rfl, hw⟩) (decode_fits (l := r) hd (by simpa using hl)) s
      · cases h
    · rename_i _ e
      simp only [List.cons.injEq] at e
      obtain ⟨rfl, rfl⟩ := e
      cases t with
      | sl el =>
        cases hw : weaker (.sl el) φ (fullFl (.sl el)) with
        | false => simp [hw] at h
        | true =>
          simp only [hw] at h
          split at h
          · rename_i z hd
            simp at h
            subst h
            exact fits_cons (a := .val (.sl el) φ) (.inr ⟨el, rfl, rfl, rfl, hw⟩) (decode_fits (l := r) hd (by simpa using hl)) s
          · cases h
      | _ => simp at h
    · cases h
  | .box g t φ :: r, av :: st, x, h, hl, s => by
    simp only [decode] at h
    split at h
    · rename_i g' u φ' z _ e
      simp only [List.cons.injEq] at e
      obtain ⟨rfl, rfl⟩ := e
      split at h
      · rename_i y z' hy hw hd
        simp at h
        subst h
        obtain ⟨rfl, rfl⟩ := castTo_some hy
        simp only [Bool.and_eq_true] at hw
        refine fits_cons (a := .box g u φ) ⟨g', φ', _, rfl, rfl, hw.1, fun q hq => ?_⟩ (decode_fits (l := r) hd (by simpa using hl)) s
        subst hq
        have h2 := hw.2
        cases g' with
        | none => simp [markOk] at h2
        | some q' => rw [Nat.eq_of_beq_eq_true h2]
      · cases h
    · cases h
  | .al u p :: r, av :: st, x, h, hl, s => by
    simp only [decode] at h
    split at h
    · rename_i u' q _ e
      simp only [List.cons.injEq] at e
      obtain ⟨rfl, rfl⟩ := e
      split at h
      · rename_i hb
        simp only [Bool.and_eq_true] at hb
        have h1 := Nat.eq_of_beq_eq_true hb.1
        have h2 := pathEq_eq hb.2
        subst h1 h2
        exact fits_cons (a := .al u' p) ⟨rfl, rfl⟩ (decode_fits (l := r) (x := x) h (by simpa using hl)) s
      · cases h
    · cases h
  | .pl u p :: r, av :: st, x, h, hl, s => by
    simp only [decode] at h
    split at h
    · rename_i u' q _ e
      simp only [List.cons.injEq] at e
      obtain ⟨rfl, rfl⟩ := e
      split at h
      · rename_i hb
        simp only [Bool.and_eq_true] at hb
        have h1 := Nat.eq_of_beq_eq_true hb.1
        have h2 := pathEq_eq hb.2
        subst h1 h2
        exact fits_cons (a := .pl u' p) ⟨rfl, rfl⟩ (decode_fits (l := r) (x := x) h (by simpa using hl)) s
      · cases h
    · cases h
    · cases h
  | .fn f cs :: r, av :: st, x, h, hl, s => by
    simp only [decode] at h
    split at h
    · rename_i g ds _ e
      simp only [List.cons.injEq] at e
      obtain ⟨rfl, rfl⟩ := e
      split at h
      · rename_i hb
        have h1 := Nat.eq_of_beq_eq_true hb
        subst h1
        exact fits_cons (a := .fn f []) ⟨rfl, rfl⟩ (decode_fits (l := r) (x := x) h (by simpa using hl)) s
      · rename_i s1 p1 u1 q1 hb
        have h1 := Nat.eq_of_beq_eq_true hb
        subst h1
        split at h
        · rename_i hb
          simp only [Bool.and_eq_true] at hb
          have h1 := Nat.eq_of_beq_eq_true hb.1
          have h2 := pathEq_eq hb.2
          subst h1 h2
          exact fits_cons (a := .fn f [(u1, p1)]) ⟨rfl, rfl⟩ (decode_fits (l := r) (x := x) h (by simpa using hl)) s
        · cases h
      · rename_i s1 p1 s2 p2 u1 q1 u2 q2 hb
        have h1 := Nat.eq_of_beq_eq_true hb
        subst h1
        split at h
        · rename_i hb
          simp only [Bool.and_eq_true] at hb
          have h1 := Nat.eq_of_beq_eq_true hb.1.1.1
          have h2 := pathEq_eq hb.1.1.2
          have h3 := Nat.eq_of_beq_eq_true hb.1.2
          have h4 := pathEq_eq hb.2
          subst h1 h2 h3 h4
          exact fits_cons (a := .fn f [(u1, p1), (u2, p2)]) ⟨rfl, rfl⟩ (decode_fits (l := r) (x := x) h (by simpa using hl)) s
        · cases h
      · cases h
    · cases h
  | .nil :: r, av :: st, x, h, hl, s => by
    simp only [decode] at h
    split at h
    · rename_i _ e
      simp only [List.cons.injEq] at e
      obtain ⟨rfl, rfl⟩ := e
      exact fits_cons (a := .nil) ⟨rfl, rfl⟩ (decode_fits (l := r) (x := x) h (by simpa using hl)) s
    · cases h
  | _ :: _, [], _, _, hl, _ => by simp at hl

theorem encode_len : ∀ (l : List Sh) (x : Vars l), (encode l x).length = l.length
  | [], _ => rfl
  | .dead :: r, x => by simp [encode, encode_len r]
  | .val t φ :: r, x => by simp [encode, encode_len r]
  | .box g t φ :: r, x => by simp [encode, encode_len r]
  | .al u p :: r, x => by simp [encode, encode_len r]
  | .pl u p :: r, x => by simp [encode, encode_len r]
  | .fn f cs :: r, x => by simp [encode, encode_len r]
  | .nil :: r, x => by simp [encode, encode_len r]

section
variable {tg : Nat → Value} {G : GP} {C : Ctx G} {P : Program} {E : Env} {β : Type}

theorem owner_meet {sh : Sh} {av ev : AV} (ho : sh.owner = true) (hf : Fits sh av ev) (hav : isOwner av = true) : isOwner ev = true ∧
    (∀ f g : Nat → AV, ∀ u r0, f u = av → g u = ev → ownerAt f u = some r0 → ∃ r, ownerAt g u = some r ∧ r.t = r0.t) ∧ (∀ w c, ownCells w ev c = ownCells w av c) ∧ (∀ g t φ x, av = .bx g t φ x → ∃ g' φ' x', ev = .bx g' t φ' x') := by
  cases sh with
  | val t φ =>
    rcases hf with ⟨φ', y, rfl, rfl, _⟩ | ⟨e, rfl, rfl, rfl, _⟩
    · refine ⟨ho, fun f g u r0 h1 h2 h3 => ?_, fun _ _ => rfl, fun _ _ _ _ h => by cases h⟩
      simp only [ownerAt, h1, Option.some.injEq] at h3
      subst h3
      exact ⟨⟨t, φ, y⟩, by simp only [ownerAt, h2], rfl⟩
    · simp [isOwner] at hav
  | box g t φ =>
    obtain ⟨g', φ', y, rfl, rfl, _⟩ := hf
    refine ⟨rfl, fun f g u r0 h1 h2 h3 => ?_, fun _ _ => rfl, fun _ _ _ _ h => by cases h; exact ⟨_, _, _, rfl⟩⟩
    simp only [ownerAt, h1, Option.some.injEq] at h3
    subst h3
    exact ⟨⟨t, φ, y⟩, by simp only [ownerAt, h2], rfl⟩
  | _ => simp [Sh.owner] at ho

theorem shOk_ref {l : List Sh} (hs : shOk l = true) {s u : Nat} {av ev : AV} (hf : Fits (l.getD s .dead) av ev) (hu : u ∈ refsOf ev) : (l.getD u .dead).owner = true := by
  by_cases hlt : s < l.length
  · have hm : l.getD s .dead ∈ l := by rw [List.getD_eq_getElem?_getD, List.getElem?_eq_getElem hlt]; exact List.getElem_mem hlt
    have h1 := List.all_eq_true.1 hs _ hm
    cases e : l.getD s .dead with
    | dead => rw [e] at hf; have : ev = .dead := hf; subst this; simp [refsOf] at hu
    | val t φ => rw [e] at hf; rcases hf with ⟨φ', y, _, rfl, _⟩ | ⟨_, _, _, rfl, _⟩ <;> simp [refsOf] at hu
    | box g t φ => rw [e] at hf; obtain ⟨_, _, _, _, rfl, _⟩ := hf; simp [refsOf] at hu
    | al v p => rw [e] at hf h1; obtain ⟨_, rfl⟩ := hf; simp [refsOf] at hu; subst hu; exact h1
    | pl v p => rw [e] at hf h1; obtain ⟨_, rfl⟩ := hf; simp [refsOf] at hu; subst hu; exact h1
    | fn f cs =>
      rw [e] at hf h1
      obtain ⟨rfl, rfl⟩ := hf
      obtain ⟨c, hc, he⟩ := List.mem_filterMap.1 hu
      obtain ⟨d, hd, rfl⟩ := List.mem_map.1 hc
      simp at he
      subst he
      exact List.all_eq_true.1 h1 d hd
    | nil => rw [e] at hf; obtain ⟨_, rfl⟩ := hf; simp [refsOf] at hu
  · have e : l.getD s .dead = .dead := by rw [List.getD_eq_getElem?_getD, List.getElem?_eq_none (by omega)]; rfl
    rw [e] at hf
    have : ev = .dead := hf
    subst this
    simp [refsOf] at hu

/-- What is known may be forgotten. -/
theorem Inv.meet {l : List Sh} {st es : St} {a : Act} {w : World} {fps : Nat → List Nat} (h : Inv tg C st a w fps []) (hl : es.length = st.length) (hs : shOk l = true) (hf : ∀ s, Fits (l.getD s .dead) (st.at s) (es.at s)) :
    ∃ fps', Inv tg C es a w fps' [] := by
  -- what a slot speaks of
  have hsp : ∀ s u, u ∈ refsOf (es.at s) → u ∈ refsOf (st.at s) → isOwner (es.at u) = true ∧
      (∀ r0, ownerAt st.at u = some r0 → ∃ r, ownerAt es.at u = some r ∧ r.t = r0.t) ∧ (∀ w c, ownCells w (es.at u) c = ownCells w (st.at u) c) ∧ (∀ g t φ x, st.at u = .bx g t φ x → ∃ g' φ' x', es.at u = .bx g' t φ' x') := by
    intro s u hu hu0
    obtain ⟨h1, h2, h3, h4⟩ := owner_meet (shOk_ref hs (hf s) hu) (hf u) (h.refs s u hu0)
    exact ⟨h1, fun r0 hr => h2 st.at es.at u r0 rfl rfl hr, h3, h4⟩
  have slot : ∀ s, ∃ f : List Nat, f.Sublist (fps s) ∧ ∀ (B' : Nat → Prop) (F : Nat → List Nat), (∀ b, permB C w fps [] b ∨ (b ∈ fps s ∧ b ∉ f) → B' b) →
      RepAV tg w B' es (fun s => a.tmps.getD s undef) F (es.at s) (a.tmps.getD s undef) f := by
    intro s
    have hr := h.rep s
    have hfs := hf s
    cases e : l.getD s .dead with
    | dead =>
      rw [e] at hfs
      have e2 : es.at s = .dead := hfs
      exact ⟨[], by simp, fun B' F _ => by rw [e2]; rfl⟩
    | val t φ =>
      rw [e] at hfs
      rcases hfs with ⟨φ', y, e1, e2, hw⟩ | ⟨el, rfl, e1, e2, hw⟩
      · rw [e1] at hr
        obtain ⟨cs, hv, hrp⟩ := hr
        obtain ⟨f, q1, q2⟩ := hrp.weak hw
        exact ⟨f, q1, fun B' F hB => by rw [e2]; exact ⟨cs, hv, (q2 (h.nodup s)).imp hB⟩⟩
      · rw [e1] at hr
        obtain ⟨hfp, hv⟩ := hr
        obtain ⟨f, q1, q2⟩ := (rep_nil (tg := tg) (w := w) (B := permB C w fps []) el (fullFl el)).weak (φ := φ) hw
        have : f = [] := List.sublist_nil.1 q1
        subst this
        exact ⟨[], by simp, fun B' F hB => by rw [e2]; exact ⟨[.slice none 0 0], by rw [hv]; simp [mkVal, Ty.agg], (q2 (by simp)).imp fun b hb => hB b (.inl (by simpa using hb))⟩⟩
    | box g t φ =>
      rw [e] at hfs
      obtain ⟨g', φ', y, e1, e2, hw, hg⟩ := hfs
      rw [e1] at hr
      obtain ⟨b, cs, T, fp', hv, hh, hrp, hfp, hm⟩ := hr
      obtain ⟨f, q1, q2⟩ := hrp.weak hw
      have hnd := h.nodup s
      rw [hfp] at hnd
      obtain ⟨n1, n2⟩ := List.nodup_cons.1 hnd
      refine ⟨b :: f, by rw [hfp]; exact q1.cons_cons b, fun B' F hB => ?_⟩
      rw [e2]
      refine ⟨b, cs, T, f, hv, hh, (q2 n2).imp fun b' hb' => hB b' (hb'.imp id fun k => ⟨by rw [hfp]; exact List.mem_cons_of_mem _ k.1, fun hm' => ?_⟩), rfl, fun q hq => hm q (hg q hq)⟩
      rcases List.mem_cons.1 hm' with rfl | hm'
      · exact n1 k.1
      · exact k.2 hm'
    | al u p =>
      rw [e] at hfs
      obtain ⟨e1, e2⟩ := hfs
      rw [e1] at hr
      obtain ⟨hfp, r0, o, t', k1, k2, k3⟩ := hr
      obtain ⟨_, m2, m3, _⟩ := hsp s u (by rw [e2]; simp [refsOf]) (by rw [e1]; simp [refsOf])
      obtain ⟨r, k4, k5⟩ := m2 r0 k1
      refine ⟨[], by simp, fun B' F hB => ?_⟩
      rw [e2]
      exact ⟨rfl, r, o, t', k4, by rw [k5]; exact k2, by rw [m3]; exact k3⟩
    | pl u p =>
      rw [e] at hfs
      obtain ⟨e1, e2⟩ := hfs
      rw [e1] at hr
      obtain ⟨hfp, g, t, φ, x, b, o, t', k1, k2, k3, k4⟩ := hr
      obtain ⟨_, _, _, m4⟩ := hsp s u (by rw [e2]; simp [refsOf]) (by rw [e1]; simp [refsOf])
      obtain ⟨g', φ', x', k5⟩ := m4 g t φ x k1
      refine ⟨[], by simp, fun B' F hB => ?_⟩
      rw [e2]
      exact ⟨rfl, g', t, φ', x', b, o, t', k5, k2, k3, k4⟩
    | fn f cs =>
      rw [e] at hfs
      obtain ⟨e1, e2⟩ := hfs
      rw [e1] at hr
      obtain ⟨hfp, vs, hv, hcap⟩ := hr
      refine ⟨[], by simp, fun B' F hB => ?_⟩
      rw [e2, e1]
      refine ⟨rfl, vs, hv, ?_⟩
      have key : ∀ (l : List (Nat × List Bool)) (vs : List Value), (∀ c, c ∈ l → c ∈ cs) → CapRel tg w (permB C w fps []) st (fun s => a.tmps.getD s undef) (l.map fun c => .pl c.1 c.2) vs → CapRel tg w B' es (fun s => a.tmps.getD s undef) (l.map fun c => .pl c.1 c.2) vs := by
        intro l
        induction l with
        | nil => intro vs _ hc; exact hc
        | cons c l ih =>
          intro vs hl hc
          obtain ⟨v, vs', rfl, ⟨g, t, φ, x, b, o, t', k1, k2, k3, k4⟩, hc'⟩ := hc
          have hmem : c.1 ∈ refsOf (.fn f (cs.map fun c => .pl c.1 c.2)) := List.mem_filterMap.2 ⟨.pl c.1 c.2, List.mem_map.2 ⟨c, hl c (by simp), rfl⟩, rfl⟩
          obtain ⟨_, _, _, m4⟩ := hsp s c.1 (by rw [e2, e1]; exact hmem) (by rw [e1]; exact hmem)
          obtain ⟨g', φ', x', k5⟩ := m4 g t φ x k1
          exact ⟨v, vs', rfl, ⟨g', t, φ', x', b, o, t', k5, k2, k3, k4⟩, ih vs' (fun d hd => hl d (by simp [hd])) hc'⟩
      exact key cs vs (fun _ h => h) hcap
    | nil =>
      rw [e] at hfs
      obtain ⟨e1, e2⟩ := hfs
      rw [e1] at hr
      exact ⟨[], by simp, fun B' F hB => by rw [e2]; exact ⟨rfl, hr.2⟩⟩
  obtain ⟨F, hF⟩ := Classical.axiomOfChoice slot
  refine ⟨F, { size := h.size.trans hl.symm, defers := h.defers, rep := fun s => (hF s).2 _ F fun b hb => ?_, refs := fun s u hu => ?_, nodup := fun s => (hF s).1.nodup (h.nodup s), disj := fun s s' b hne h1 h2 => h.disj s s' b hne ((hF s).1.subset h1) ((hF s').1.subset h2), own := fun s b hb => h.own s b ((hF s).1.subset hb), xnodup := by simp, xdisj := by simp, xown := by simp, frame := h.frame }⟩
  · rcases hb with hb | ⟨h1, h2⟩
    · exact hb.imp id fun k => ⟨k.1, k.2.1, fun s' hm => k.2.2.1 s' ((hF s').1.subset hm), by simp⟩
    · have ho := h.own s b h1
      refine .inr ⟨ho.2, ho.1, fun s' hm => ?_, by simp⟩
      by_cases hss : s' = s
      · subst hss; exact h2 hm
      · exact h.disj s s' b (Ne.symm hss) h1 ((hF s').1.subset hm)
  · refine (hsp s u hu ?_).1
    have hfs := hf s
    cases e : l.getD s .dead with
    | dead => rw [e] at hfs; have : es.at s = .dead := hfs; rw [this] at hu; simp [refsOf] at hu
    | val t φ => rw [e] at hfs; rcases hfs with ⟨φ', y, _, e2, _⟩ | ⟨_, _, _, e2, _⟩ <;> (rw [e2] at hu; simp [refsOf] at hu)
    | box g t φ => rw [e] at hfs; obtain ⟨_, _, _, _, e2, _⟩ := hfs; rw [e2] at hu; simp [refsOf] at hu
    | al v p => rw [e] at hfs; obtain ⟨e1, e2⟩ := hfs; rw [e1]; rw [e2] at hu; exact hu
    | pl v p => rw [e] at hfs; obtain ⟨e1, e2⟩ := hfs; rw [e1]; rw [e2] at hu; exact hu
    | fn f cs => rw [e] at hfs; obtain ⟨e1, e2⟩ := hfs; rw [e2] at hu; exact hu
    | nil => rw [e] at hfs; obtain ⟨_, e2⟩ := hfs; rw [e2] at hu; simp [refsOf] at hu

theorem Inv.decode {l : List Sh} {st : St} {a : Act} {w : World} {fps : Nat → List Nat} (h : Inv tg C st a w fps []) (hs : shOk l = true) (hl : l.length = st.length) {x : Vars l} (hd : decode l st = some x) : ∃ fps', Inv tg C (encode l x) a w fps' [] :=
  h.meet (by rw [encode_len, hl]) hs (decode_fits hd hl)
end
end Go.Ev
/-
  Code is sound.
-/
namespace Go.Ev

def toExit : Ex → Exit
  | .normal => .normal
  | .exit id => .exit id
  | .ret => .ret

section
variable {P : Program} {Q : Exit → Act → World → Prop}
/-- A loop whose rounds are counted down. -/
theorem wp_loop_n {c : Code} {I : Nat → Act → World → Prop} (zero : ∀ a w, ¬ I 0 a w) (round : ∀ k a w, I (k + 1) a w → c.wp P (Exit.then (I k) Q) a w) {n : Nat} {a : Act} {w : World} (h : I n a w) : (Code.loop c).wp P Q a w := by
  intro b k cs
  have key : ∀ n a w, I n a w → ∃ e a' w', Q e a' w' ∧ Arrives P (lone (b.at a (.code c :: .inLoop c :: k)) cs w) b k cs e a' w' := by
    intro n
    induction n with
    | zero => exact fun a w h => absurd h (zero a w)
    | succ n ih =>
      intro a w hI
      obtain ⟨e, a₁, w₁, hq, harr⟩ := round n a w hI b (.inLoop c :: k) cs
      cases e with
      | normal =>
        obtain ⟨e₂, a₂, w₂, hq₂, harr₂⟩ := ih a₁ w₁ hq
        exact ⟨e₂, a₂, w₂, hq₂, .of_steps (Steps.trans harr (.one step_inLoop)) harr₂⟩
      | exit id => exact ⟨_, a₁, w₁, hq, .pass (x := .inLoop c) rfl (fun _ _ => .inl (by simp)) harr⟩
      | goto l => exact ⟨_, a₁, w₁, hq, .pass (x := .inLoop c) rfl (fun _ _ => .inl (by simp)) harr⟩
      | ret => exact ⟨_, a₁, w₁, hq, .pass (x := .inLoop c) rfl (fun _ _ => .inl (by simp)) harr⟩
      | panic ch => exact ⟨_, a₁, w₁, hq, .pass (x := .inLoop c) rfl (fun _ _ => .inl (by simp)) harr⟩
      | outgrown => exact ⟨_, a₁, w₁, hq, .pass (x := .inLoop c) rfl (fun _ _ => .inl (by simp)) harr⟩
  obtain ⟨e, a', w', hq, harr⟩ := key _ a w h
  exact ⟨e, a', w', hq, .of_steps (.one step_loop) harr⟩
end

/-- A loop's specification is what its rounds come to. -/
def LoopOk (E : Env) (L : Nat → Option LoopSpec) (n cur : Nat) (body : Code) : Prop :=
  ∀ s, L cur = some s → s.sh.length = n ∧ ∃ out : Ex → List Sh, (∀ e, (out e).length = n ∧ shOk (out e) = true) ∧
    ∀ {β : Type} (x : Vars s.sh) (K : Ex → St → Option β) (r : β), s.fn x K = some r → ∃ k, iterV E L cur body s.sh out k x (fun e y => K e (encode (out e) y)) = some r

section
variable {tg : Nat → Value} {G : GP} {C : Ctx G} {P : Program} {E : Env} {β : Type} {L : Nat → Option LoopSpec} {n : Nat}

theorem exec_ok (hE : EnvOk G P E) (hm : P.follows .mixedOrders = true) {r : β} : ∀ (c : Code) (cur : Nat), (∀ p, p ∈ loopsIn cur c → LoopOk E L n p.1 p.2) → ∀ {st : St} {K : Ex → St → Option β} {Q : Exit → Act → World → Prop} {a : Act} {w : World} {fps : Nat → List Nat},
    Inv tg C st a w fps [] → st.length = n → exec E L cur c st K = some r → (∀ e st' a' w' fps', st'.length = n → Inv tg C st' a' w' fps' [] → K e st' = some r → Q (toExit e) a' w') → c.wp P Q a w := by
  intro c
  induction c with
  | skip => intro cur _ st K Q a w fps h hl he hn; exact wp_skip (hn .normal st a w fps hl h he)
  | region id ops draw =>
    intro cur _ st K Q a w fps h hl he hn
    cases draw with
    | false => exact wp_region (ops_ok hE h he fun st' a' w' fps' hl' h' hk => hn .normal st' a' w' fps' (hl'.trans hl) h' hk)
    | true =>
      refine wp_region_any hm (draw_ok hE (h.grow (w' := { w with drawn := w.drawn + 1 }) ⟨rfl, rfl, rfl, Nat.le_refl _, fun _ _ => rfl⟩) he fun st' a' w' fps' hl' h' hk => by
        obtain ⟨f2, l2, h2⟩ := settle_ok h' ops
        exact hn .normal _ a' w' f2 (l2.trans (hl'.trans hl)) h2 hk)
  | seq x y ihx ihy =>
    intro cur hL st K Q a w fps h hl he hn
    refine wp_seq (ihx cur (fun p hp => hL p (by simp [loopsIn, hp])) h hl he fun e st' a' w' fps' hl' h' hk => ?_)
    cases e with
    | normal => exact ihy cur (fun p hp => hL p (by simp [loopsIn, hp])) h' hl' hk hn
    | exit id => exact hn (.exit id) st' a' w' fps' hl' h' hk
    | ret => exact hn .ret st' a' w' fps' hl' h' hk
  | cond cnd x y ihx ihy =>
    intro cur hL st K Q a w fps h hl he hn
    simp only [exec] at he
    split at he
    · rename_i b hb
      have hv := (opd_ok h.rep h.refs cnd).bool hb
      cases b with
      | true => exact wp_cond_true hv (ihx cur (fun p hp => hL p (by simp [loopsIn, hp])) h hl he hn)
      | false => exact wp_cond_false hv (ihy cur (fun p hp => hL p (by simp [loopsIn, hp])) h hl he hn)
    · cases he
  | block id body ih =>
    intro cur hL st K Q a w fps h hl he hn
    refine wp_block (ih id (fun p hp => hL p hp) h hl he fun e st' a' w' fps' hl' h' hk => ?_)
    cases e with
    | normal => exact hn .normal st' a' w' fps' hl' h' hk
    | exit j =>
      simp only [toExit, Exit.inBlock]
      simp only at hk
      cases hj : Nat.beq j id with
      | true =>
        rw [hj] at hk
        rw [if_pos (nbeq_true hj)]
        exact hn .normal st' a' w' fps' hl' h' hk
      | false =>
        rw [hj] at hk
        rw [if_neg (nbeq_false hj)]
        exact hn (.exit j) st' a' w' fps' hl' h' hk
    | ret => exact hn .ret st' a' w' fps' hl' h' hk
  | loop body ih =>
    intro cur hL st K Q a w fps h hl he hn
    simp only [exec] at he
    split at he
    · rename_i s hs
      obtain ⟨hsl, out, hoo, hit⟩ := hL (cur, body) (by simp [loopsIn]) s hs
      split at he
      · rename_i x hsh hd
        obtain ⟨k, hk⟩ := hit x K r he
        obtain ⟨fps0, h0⟩ := h.decode hsh (by rw [hsl, hl]) hd
        refine wp_loop_n (I := fun k a w => ∃ x fps, Inv tg C (encode s.sh x) a w fps [] ∧ iterV E L cur body s.sh out k x (fun e y => K e (encode (out e) y)) = some r) ?_ ?_ ⟨x, fps0, h0, hk⟩
        · rintro a w ⟨x, fps, _, hx⟩
          cases hx
        · rintro k a w ⟨x, fps, hI, hx⟩
          refine ih cur (fun p hp => hL p (by simp [loopsIn, hp])) hI (by rw [encode_len, hsl]) hx fun e st' a' w' fps' hl' h' hk' => ?_
          cases e with
          | normal =>
            simp only at hk'
            split at hk'
            · rename_i y hy
              obtain ⟨fps2, h2⟩ := h'.decode hsh (by rw [hsl, hl']) hy
              exact ⟨y, fps2, h2, hk'⟩
            · cases hk'
          | exit j =>
            simp only at hk'
            split at hk'
            · rename_i y hy
              obtain ⟨fps2, h2⟩ := h'.decode (hoo (.exit j)).2 (by rw [(hoo (.exit j)).1, hl']) hy
              exact hn (.exit j) _ a' w' fps2 (by rw [encode_len, (hoo (.exit j)).1]) h2 hk'
            · cases hk'
          | ret =>
            simp only at hk'
            split at hk'
            · rename_i y hy
              obtain ⟨fps2, h2⟩ := h'.decode (hoo .ret).2 (by rw [(hoo .ret).1, hl']) hy
              exact hn .ret _ a' w' fps2 (by rw [encode_len, (hoo .ret).1]) h2 hk'
            · cases hk'
      · cases he
    · cases he
  | exit id => intro cur _ st K Q a w fps h hl he hn; exact wp_exit (hn (.exit id) st a w fps hl h he)
  | label l => intro cur _ st K Q a w fps h hl he hn; exact wp_label (hn .normal st a w fps hl h he)
  | ret => intro cur _ st K Q a w fps h hl he hn; exact wp_ret (hn .ret st a w fps hl h he)
  | _ => intro cur _ st K Q a w fps h hl he hn; simp [exec] at he
end
end Go.Ev
/-
  Functions are sound: contracts.
-/
namespace Go.Ev
section
variable {tg : Nat → Value} {G : GP} {C : Ctx G} {P : Program} {E : Env} {β : Type}

def resVal (tmps : Array Value) : ResultVar → Sem Value
  | .tmp t => pure (tmps.getD t undef)
  | .cell a t => do loadVar t (← asAddr (tmps.getD a undef))

theorem finish_ok (hE : EnvOk G P E) {a : Act} {w : World} : ∀ {ts : List (Ty × Fl)} {rs : List ResultVar} {st : St} {fps : Nat → List Nat} {fx : List Nat} {l : List Res}, Inv tg C st a w fps fx → finish E ts rs st = some l →
    ∃ st' fps' f vs, Inv tg C st' a w fps' (fx ++ f) ∧ (∀ b, permB C w fps fx b → permB C w fps' (fx ++ f) b) ∧ (rs.mapM (resVal a.tmps)).run P w = .ok vs w ∧ RepTup tg w (permB C w fps' (fx ++ f)) l vs f
  | [], [], st, fps, fx, l, h, he => by
    simp only [finish, Option.some.injEq] at he
    subst he
    exact ⟨st, fps, [], [], by simpa using h, by simp, by simp, rfl, rfl⟩
  | (t, φ) :: ts, rv :: rs, st, fps, fx, l, h, he => by
    -- the value, taken
    have key : ∃ (st1 : St) (r : Res) (cs : List Value) (fps1 : Nat → List Nat) (f0 : List Nat) (y : El t) (l' : List Res), Inv tg C st1 a w fps1 (fx ++ f0) ∧ (∀ b, permB C w fps fx b → permB C w fps1 (fx ++ f0) b) ∧ (resVal a.tmps rv).run P w = .ok (mkVal t cs) w ∧ Rep tg w (permB C w fps1 (fx ++ f0)) t r.φ y cs f0 ∧
        weaker t φ r.φ = true ∧ finish E ts rs st1 = some l' ∧ l = ⟨t, φ, y⟩ :: l' := by
      cases rv with
      | tmp s =>
        simp only [finish] at he
        split at he
        case h_2 => cases he
        rename_i st1 r ht
        split at he
        case h_2 => cases he
        rename_i y l' hy hw hf
        simp at he
        subst he
        obtain ⟨fps1, f0, cs, k1, k2, k3, k4, k5, k6⟩ := h.takeOp ht
        have k5' : a.tmps.getD s undef = mkVal t cs := by obtain ⟨e, _⟩ := castTo_some hy; rw [← e]; exact k5
        exact ⟨st1, r, cs, fps1, f0, y, l', k1, k4, by rw [← k5']; rfl, k6.cast hy, hw, hf, rfl⟩
      | cell s id =>
        simp only [finish] at he
        split at he
        case h_2 => cases he
        rename_i g t0 φ0 x0 u e es
        split at he
        case h_2 => cases he
        rename_i st1 r hb ht
        split at he
        case h_2 => cases he
        rename_i y l' hy hw hf
        simp at he
        subst he
        have hu := Ty.eq_of_beq hb
        subst hu
        obtain ⟨fps1, f0, k1, k2, k3, k4, r0, o, k5, k6, k7⟩ := h.takeAt ht
        have hrs := h.rep s
        rw [e] at hrs
        obtain ⟨b, cs, T, fp', q1, q2, q3, q4, q5⟩ := hrs
        simp only [ownerAt, e, Option.some.injEq] at k5
        subst k5
        simp only [partOff, Option.some.injEq, Prod.mk.injEq] at k6
        obtain ⟨rfl, ht0⟩ := k6
        have hoc : ownCells w (st.at s) (a.tmps.getD s undef) = cs := by rw [e, q1]; simp [ownCells, q2]
        rw [hoc, List.drop_zero] at k7
        have hlen : cs.length = t0.size := q3.len
        have hlr : cs.take r.t.size = cs := by rw [← ht0, ← hlen, List.take_length]
        rw [hlr] at k7
        have k7' := k7.cast hy
        refine ⟨st1, r, cs, fps1, f0, y, l', k1, k4, ?_, k7', hw, hf, rfl⟩
        have hmem : Mem w b 0 cs := ⟨cs.toArray, T, (0, 0), q2, fun j hj => by simp [List.getElem?_eq_getElem hj]⟩
        have hld := run_loadVar_mem (P := P) (hE.ty _ _ es) (w := w) (b := b) (off := 0) k7'.len hmem
        simp [resVal, q1, asAddr, hld]
    obtain ⟨st1, r, cs, fps1, f0, y, l', k1, k2, k3, k4, k5, k6, rfl⟩ := key
    obtain ⟨f1, s1, hweak⟩ := k4.weak k5
    obtain ⟨n1, n2, n3⟩ := nodup_app k1.xnodup
    have hsub : ∀ b, b ∈ fx ++ f1 → b ∈ fx ++ f0 := fun b hb => by
      rcases List.mem_append.1 hb with hb | hb
      · simp [hb]
      · exact List.mem_append.2 (.inr (s1.subset hb))
    have hnd : (fx ++ f1).Nodup := List.nodup_append.2 ⟨n1, s1.nodup n2, fun x hx z hz e => n3 x hx (s1.subset (e ▸ hz))⟩
    have h1 := k1.sub hnd hsub
    have hB1 : ∀ b, permB C w fps1 (fx ++ f0) b → permB C w fps1 (fx ++ f1) b := fun b hb => hb.imp id fun k => ⟨k.1, k.2.1, k.2.2.1, fun hm => k.2.2.2 (hsub b hm)⟩
    have hrep : Rep tg w (permB C w fps1 (fx ++ f1)) t φ y cs f1 := (hweak n2).imp fun b hb => by
      rcases hb with hb | ⟨h2, h3⟩
      · exact hB1 b hb
      · have ho := k1.xown b (List.mem_append.2 (.inr h2))
        refine .inr ⟨ho.2, ho.1, fun s hs => k1.xdisj s b hs (List.mem_append.2 (.inr h2)), fun hm => ?_⟩
        rcases List.mem_append.1 hm with hm | hm
        · exact n3 b hm h2
        · exact h3 hm
    obtain ⟨st', fps', f2, vs, m1, m2, m3, m4⟩ := finish_ok hE h1 k6
    refine ⟨st', fps', f1 ++ f2, mkVal t cs :: vs, by simpa [List.append_assoc] using m1, fun b hb => ?_, ?_, ?_⟩
    · have := m2 b (hB1 b (k2 b hb)); simpa [List.append_assoc] using this
    · simp [List.mapM_cons, k3, m3]
    · have e0 : fx ++ (f1 ++ f2) = fx ++ f1 ++ f2 := by simp
      rw [e0]
      exact ⟨cs, vs, f1, f2, rfl, rfl, hrep.imp m2, m4⟩
  | [], _ :: _, st, fps, fx, l, h, he => by simp [finish] at he
  | _ :: _, [], st, fps, fx, l, h, he => by simp [finish] at he

theorem args_at : ∀ {args : List Ct} {vals : List Value} {w : World} {B : Nat → Prop}, ArgsRep tg w B args vals → vals.length = args.length ∧ ∀ (s : Nat) (c : Ct), args[s]? = some c → ∃ cs, vals[s]? = some (mkVal c.t cs) ∧ Rep tg w B c.t .no c.x cs []
  | [], vals, w, B, h => by have : vals = [] := h; subst this; simp
  | c :: l, vals, w, B, h => by
    obtain ⟨cs, vs', rfl, h1, h2⟩ := h
    obtain ⟨h3, h4⟩ := args_at h2
    refine ⟨by simp [h3], fun s d hs => ?_⟩
    cases s with
    | zero => simp at hs; subst hs; exact ⟨cs, rfl, h1⟩
    | succ s => simpa using h4 s d (by simpa using hs)

theorem start_at {n : Nat} {args : List Ct} (s : Nat) : St.at (start n args) s = match args[s]? with | some c => .v c.t .no c.x | none => .dead := by
  unfold start St.at
  rw [List.getD_eq_getElem?_getD]
  by_cases hs : s < args.length
  · rw [List.getElem?_append_left (by simpa using hs)]
    simp [List.getElem?_eq_getElem hs]
  · rw [List.getElem?_append_right (by simpa using hs), List.getElem?_replicate, List.getElem?_eq_none (by omega)]
    split <;> rfl

/-- What a function is at contents, it is as a call. -/
theorem contract_ofK (hE : EnvOk G P E) (hm : P.follows .mixedOrders = true) {f : Nat} {fn : Func} {c : Code} (hf : P.funcs[f]? = some fn) (hname : (fn.name == "runtime.NumGoroutine") = false) (hb : fn.body = some c) {L : Nat → Option LoopSpec}
    (hL : ∀ p, p ∈ loopsIn 0 c → LoopOk E L fn.ntmps p.1 p.2) {rs : List (Ty × Fl)} {args : List Ct} {res : List Res} (hle : args.length ≤ fn.ntmps) {K : Ex → St → Option β} {y : β} (he : exec E L 0 c (start fn.ntmps args) K = some y)
    (hK : ∀ e st, K e st = some y → (∀ id, e ≠ .exit id) ∧ finish E rs fn.results.toList st = some res) : Contract G P f args res := by
  intro tg w Bp vals hG hBp hargs
  obtain ⟨hlen, hat⟩ := args_at hargs
  have hrun : (callFunc f vals.toArray).run P w = .ok (.enter f vals.toArray) w := by
    have hn : ¬ fn.name = "runtime.NumGoroutine" := by simpa using hname
    simp [callFunc, hf, hn, hb]
  unfold CallsV
  rw [hrun]
  let C : Ctx G := { w0 := w, Bp := Bp, ext := fun _ => False, bp := fun b hb => ⟨hBp b hb, fun h => h⟩, xt := fun _ h => h.elim, gok := hG, xg := fun _ h => h.elim }
  have hInv : Inv tg C (start fn.ntmps args) { tmps := vals.toArray ++ Array.replicate (fn.ntmps - vals.toArray.size) undef, defers := [] } w (fun _ => []) [] := by
    refine { size := by simp [start, hlen], defers := rfl, rep := fun s => ?_, refs := fun s u hu => ?_, nodup := by simp, disj := by simp, own := by simp, xnodup := by simp, xdisj := by simp, xown := by simp, frame := ⟨rfl, rfl, rfl, Nat.le_refl _, fun _ _ _ => rfl⟩ }
    · rw [start_at]
      split
      · rename_i d hd
        obtain ⟨cs, h1, h2⟩ := hat s d hd
        refine ⟨cs, ?_, h2.imp fun b hb => .inl hb⟩
        have hs : s < vals.length := (List.getElem?_eq_some_iff.1 h1).1
        simp only [Array.getD_eq_getD_getElem?]
        rw [Array.getElem?_append_left (by simpa using hs)]
        simp [h1]
      · rfl
    · rw [start_at] at hu
      split at hu <;> simp [refsOf] at hu
  refine calls_of_wp hf hb (exec_ok (C := C) (L := L) (n := fn.ntmps) hE hm c 0 hL hInv (by simp [start]; omega) he fun e st' a' w' fps' hl' h' hk => ?_)
  have fin : finish E rs fn.results.toList st' = some res → bodyPost P fn (fun e w2 => ∃ v, e = .returned v ∧ ∃ fp, RowKit.Below w.heap.size w w2 ∧ fp.Nodup ∧ (∀ b, b ∈ fp → w.heap.size ≤ b ∧ b < w2.heap.size) ∧
      ResRep tg w2 (fun b => Bp b ∨ (w.heap.size ≤ b ∧ b < w2.heap.size ∧ b ∉ fp)) res v fp) .normal a' w' := by
    intro hfin
    obtain ⟨st2, fps2, fp, vs, k1, _, k3, k4⟩ := finish_ok hE h' hfin
    simp only [List.nil_append] at k1 k4
    have hB : ∀ b, permB C w' fps2 fp b → (Bp b ∨ (w.heap.size ≤ b ∧ b < w'.heap.size ∧ b ∉ fp)) := fun b hb => hb.imp id fun k => ⟨k.1.resolve_right (fun h => h), k.2.1, k.2.2.2⟩
    have k4' := k4.conv (B' := fun b => Bp b ∨ (w.heap.size ≤ b ∧ b < w'.heap.size ∧ b ∉ fp)) fun r _ x cs f hr => hr.imp hB
    refine ⟨h'.defers, if h : vs.toArray.size = 1 then vs.toArray[0] else .tuple vs.toArray, ?_, _, rfl, fp, ⟨k1.frame.os, k1.frame.tape, k1.frame.output, k1.frame.size, fun k hk => k1.frame.block k hk (fun h => h)⟩, k1.xnodup, fun b hb => ?_, ?_⟩
    · unfold results
      rw [Array.mapM_eq_mapM_toList]
      have hF : ∀ F : ResultVar → Sem Value, (∀ x, F x = resVal a'.tmps x) → (fn.results.toList.mapM F).run P w' = .ok vs w' := by
        intro F hF
        rw [funext hF]
        exact k3
      simp only [Sem.run_bind, Sem.run_map]
      rw [hF]
      · rfl
      · intro x; cases x <;> rfl
    · have := k1.xown b hb
      exact ⟨this.2.resolve_right (fun h => h), this.1⟩
    · match res, k4' with
      | [r], ⟨cs, vs', f1, f2, e1, e2, hr, e3, e4⟩ =>
        subst e1 e3 e4
        refine ⟨cs, by simp, ?_⟩
        simpa [e2] using hr
      | [], hr =>
        have : vs = [] := hr.1
        subst this
        exact ⟨[], by simp, hr⟩
      | r :: r' :: l, hr =>
        refine ⟨vs, ?_, hr⟩
        obtain ⟨cs, vs', f1, f2, e1, e2, hr1, cs2, vs2, f3, f4, e3, _⟩ := hr
        subst e1 e3
        simp
  obtain ⟨hk1, hk2⟩ := hK e st' hk
  cases e with
  | normal => exact fin hk2
  | exit id => exact absurd rfl (hk1 id)
  | ret => exact fin hk2

/-- The results' contents, out of the list. -/
@[reducible] def Outs : List (Ty × Fl) → Type
  | [] => Unit
  | (t, _) :: r => El t × Outs r
def mkRes : (os : List (Ty × Fl)) → Outs os → List Res
  | [], _ => []
  | (t, φ) :: r, x => ⟨t, φ, x.1⟩ :: mkRes r x.2

/-- The results, at the types and flags that are told. -/
def fin (E : Env) : (os : List (Ty × Fl)) → List ResultVar → St → Option (Outs os)
  | [], [], _ => some ()
  | (t, φ) :: ts, .tmp s :: rs, st => match takeOp st (some t) (.tmp s) with
    | some (st1, r) => match castTo t r.x, weaker t φ r.φ, fin E ts rs st1 with
      | some y, true, some l => some (y, l)
      | _, _, _ => none
    | none => none
  | (t, φ) :: ts, .cell s ty :: rs, st => match st.at s, E.τ ty with
    | .bx _ _ _ _, some u => match Ty.beq u t, takeAt st s [] with
      | true, some (st1, r) => match castTo t r.x, weaker t φ r.φ, fin E ts rs st1 with
        | some y, true, some l => some (y, l)
        | _, _, _ => none
      | _, _ => none
    | _, _ => none
  | _, _, _ => none

theorem fin_finish : ∀ {os : List (Ty × Fl)} {rs : List ResultVar} {st : St} {y : Outs os}, fin E os rs st = some y → finish E os rs st = some (mkRes os y)
  | [], [], _, _, _ => rfl
  | (t, φ) :: ts, .tmp s :: rs, st, y, h => by
    simp only [fin] at h
    split at h
    case h_2 => cases h
    rename_i st1 r ht
    split at h
    case h_2 => cases h
    rename_i y1 l h1 h2 h3
    simp only [Option.some.injEq] at h
    subst h
    simp only [finish, ht, h1, h2, fin_finish h3]
    rfl
  | (t, φ) :: ts, .cell s ty :: rs, st, y, h => by
    simp only [fin] at h
    split at h
    case h_2 => cases h
    rename_i g t0 φ0 x0 u e es
    split at h
    case h_2 => cases h
    rename_i st1 r hb ht
    split at h
    case h_2 => cases h
    rename_i y1 l h1 h2 h3
    simp only [Option.some.injEq] at h
    subst h
    simp only [finish, e, es, hb, ht, h1, h2, fin_finish h3]
    rfl
  | [], _ :: _, st, l, h => by simp [fin] at h
  | _ :: _, [], st, l, h => by simp [fin] at h

/-- A function at contents: its results' contents. -/
def evF (E : Env) (L : Nat → Option LoopSpec) (fn : Func) (os : List (Ty × Fl)) (args : List Ct) : Option (Outs os) := match fn.body, Nat.ble args.length fn.ntmps with
  | some c, true => exec E L 0 c (start fn.ntmps args) fun e st => match e with
    | .exit _ => none
    | _ => fin E os fn.results.toList st
  | _, _ => none

theorem contract_of (hE : EnvOk G P E) (hm : P.follows .mixedOrders = true) {f : Nat} {fn : Func} {c : Code} (hf : P.funcs[f]? = some fn) (hname : (fn.name == "runtime.NumGoroutine") = false) (hb : fn.body = some c) {L : Nat → Option LoopSpec}
    (hL : ∀ p, p ∈ loopsIn 0 c → LoopOk E L fn.ntmps p.1 p.2) {os : List (Ty × Fl)} {args : List Ct} {y : Outs os} (he : evF E L fn os args = some y) : Contract G P f args (mkRes os y) := by
  unfold evF at he
  split at he
  case h_2 => cases he
  rename_i c' hb' hle
  rw [hb] at hb'
  simp at hb'
  subst hb'
  refine contract_ofK (rs := os) hE hm hf hname hb hL (Nat.le_of_ble_eq_true hle) he fun e st hk => ?_
  cases e with
  | normal => exact ⟨by simp, fin_finish hk⟩
  | exit id => cases hk
  | ret => exact ⟨by simp, fin_finish hk⟩
end
end Go.Ev
/-
  Tables of types; contracts one after the other; loops by their rounds.
-/
namespace Go.Ev

@[reducible] def Elts : List Ty → Type
  | [] => Unit
  | t :: r => El t × Elts r
def mkArgs : (ts : List Ty) → Elts ts → List Ct
  | [], _ => []
  | t :: r, x => ⟨t, x.1⟩ :: mkArgs r x.2
def decArgs : (ts : List Ty) → List Ct → Option (Elts ts)
  | [], [] => some ()
  | t :: r, c :: cs => match castTo t c.x, decArgs r cs with
    | some y, some z => some (y, z)
    | _, _ => none
  | _, _ => none
/-- A function's contract, as the evaluator uses it. -/
structure Entry where
  f : Nat
  ins : List Ty
  outs : List (Ty × Fl)
  fn : Elts ins → Option (Outs outs)

def Env.ext (E : Env) (e : Entry) : Env :=
  { τ := E.τ, by_ := E.by_, Γ := fun f args {β} K => match Nat.beq f e.f with
    | true => match decArgs e.ins args with
      | some x => obind (e.fn x) fun r => K (mkRes e.outs r)
      | none => E.Γ f args K
    | false => E.Γ f args K
    W := E.W, wk := E.wk, Φ := E.Φ, ΓW := E.ΓW }

def tabTy : List (Nat × Ty × Nat) → Nat → Option Ty
  | [], _ => none
  | p :: l, id => match Nat.beq id p.1 with
    | true => some p.2.1
    | false => tabTy l id
def tabBy : List (Nat × Ty × Nat) → Nat → Nat
  | [], _ => 0
  | p :: l, id => match Nat.beq id p.1 with
    | true => p.2.2
    | false => tabBy l id
def tabOne (P : Program) (p : Nat × Ty × Nat) : Bool := tyOk P 30 p.1 p.2.1 && (match p.2.1, P.underlying p.1 with
  | .sl _, some (.slice e') => (match P.info? e' with
    | some i => Nat.beq i.bytes p.2.2
    | none => true)
  | _, _ => true)
def tabOk (P : Program) (tab : List (Nat × Ty × Nat)) : Bool := tab.all (tabOne P)
def baseEnv (tab : List (Nat × Ty × Nat)) (wk : Nat → Bool := fun _ => false) : Env := { τ := tabTy tab, by_ := tabBy tab, wk := wk, Γ := fun _ _ {_} _ => none }

theorem tab_find : ∀ {tab : List (Nat × Ty × Nat)} {id : Nat} {t : Ty}, tabTy tab id = some t → ∃ p, p ∈ tab ∧ p.1 = id ∧ p.2.1 = t ∧ p.2.2 = tabBy tab id
  | [], _, _, h => by simp [tabTy] at h
  | p :: l, id, t, h => by
    simp only [tabTy] at h
    cases hb : Nat.beq id p.1 with
    | true =>
      rw [hb] at h
      simp at h
      exact ⟨p, by simp, (nbeq_true hb).symm, h, by simp [tabBy, hb]⟩
    | false =>
      rw [hb] at h
      obtain ⟨q, h1, h2, h3, h4⟩ := tab_find h
      exact ⟨q, by simp [h1], h2, h3, by simp [tabBy, hb, h4]⟩

section
variable {G : GP} {P : Program} {E : Env}
theorem base_ok {tab : List (Nat × Ty × Nat)} {wk : Nat → Bool} (h : tabOk P tab = true) : EnvOk G P (baseEnv tab wk) where
  ty id t ht := by
    obtain ⟨p, h1, rfl, rfl, _⟩ := tab_find ht
    have := List.all_eq_true.1 h p h1
    simp only [tabOne, Bool.and_eq_true] at this
    exact this.1
  by_ id e e' i ht hu hi := by
    obtain ⟨p, h1, h2, h3, h4⟩ := tab_find ht
    subst h2
    have := List.all_eq_true.1 h p h1
    simp only [tabOne, Bool.and_eq_true, h3, hu, hi] at this
    exact (nbeq_true this.2).trans h4
  nat f args β K := rfl
  Γ f args res h := by simp [baseEnv] at h
  natW f t x args β K := rfl
  natΦ f args β K := rfl
  Φ f args res h := by simp [baseEnv] at h
  ΓW f t x args res y h := by simp [baseEnv] at h

theorem decArgs_eq : ∀ {ts : List Ty} {args : List Ct} {x : Elts ts}, decArgs ts args = some x → args = mkArgs ts x
  | [], [], _, _ => rfl
  | t :: r, c :: cs, x, h => by
    simp only [decArgs] at h
    split at h
    · rename_i y z hy hz
      simp at h
      subst h
      obtain ⟨ct, cx⟩ := c
      obtain ⟨e, rfl⟩ := castTo_some hy
      simp only at e
      subst e
      simp only [mkArgs]
      rw [← decArgs_eq hz]
    · cases h
  | [], _ :: _, _, h => by simp [decArgs] at h
  | _ :: _, [], _, h => by simp [decArgs] at h

theorem obind_eq {α β : Type} (o : Option α) (K : α → Option β) : obind o K = o.bind K := by cases o <;> rfl

theorem EnvOk.ext (hE : EnvOk G P E) {e : Entry} (h : ∀ x r, e.fn x = some r → Contract G P e.f (mkArgs e.ins x) (mkRes e.outs r)) : EnvOk G P (E.ext e) where
  ty := hE.ty
  by_ := hE.by_
  nat f args β K := by
    simp only [Env.ext]
    cases Nat.beq f e.f with
    | true =>
      cases decArgs e.ins args with
      | none => exact hE.nat f args K
      | some x =>
        simp only [obind_eq]
        rw [Option.bind_assoc]
        rfl
    | false => exact hE.nat f args K
  Γ f args res hr := by
    simp only [Env.ext] at hr
    cases hb : Nat.beq f e.f with
    | true =>
      rw [hb] at hr
      have := nbeq_true hb
      subst this
      cases hd : decArgs e.ins args with
      | none => rw [hd] at hr; exact hE.Γ _ args res hr
      | some x =>
        rw [hd] at hr
        simp only at hr
        rw [decArgs_eq hd]
        cases hx : e.fn x with
        | none => rw [hx] at hr; cases hr
        | some r =>
          rw [hx] at hr
          simp only [obind, Option.some.injEq] at hr
          subst hr
          exact h x r hx
    | false =>
      rw [hb] at hr
      exact hE.Γ f args res hr
  natW := hE.natW
  natΦ := hE.natΦ
  Φ := hE.Φ
  ΓW := hE.ΓW

/-- The functions that lists of functions hold. -/
def Env.withF (E : Env) (e : Entry) : Env :=
  { τ := E.τ, by_ := E.by_, Γ := E.Γ, W := E.W, wk := E.wk, ΓW := E.ΓW
    Φ := fun f args {β} K => match Nat.beq f e.f with
      | true => match decArgs e.ins args with
        | some x => obind (e.fn x) fun r => K (mkRes e.outs r)
        | none => none
      | false => E.Φ f args K }
theorem EnvOk.withF (hE : EnvOk G P E) {e : Entry} (h : ∀ x r, e.fn x = some r → Contract G P e.f (mkArgs e.ins x) (mkRes e.outs r)) : EnvOk G P (E.withF e) where
  ty := hE.ty
  by_ := hE.by_
  nat := hE.nat
  Γ := hE.Γ
  natW := hE.natW
  ΓW := hE.ΓW
  natΦ f args β K := by
    simp only [Env.withF]
    cases Nat.beq f e.f with
    | true =>
      cases decArgs e.ins args with
      | none => rfl
      | some x =>
        simp only [obind_eq]
        rw [Option.bind_assoc]
        rfl
    | false => exact hE.natΦ f args K
  Φ f args res hr := by
    simp only [Env.withF] at hr
    cases hb : Nat.beq f e.f with
    | true =>
      rw [hb] at hr
      have := nbeq_true hb
      subst this
      cases hd : decArgs e.ins args with
      | none => rw [hd] at hr; cases hr
      | some x =>
        rw [hd] at hr
        simp only at hr
        rw [decArgs_eq hd]
        cases hx : e.fn x with
        | none => rw [hx] at hr; cases hr
        | some r =>
          rw [hx] at hr
          simp only [obind, Option.some.injEq] at hr
          subst hr
          exact h x r hx
    | false =>
      rw [hb] at hr
      exact hE.Φ f args res hr

def Ex.beq : Ex → Ex → Bool
  | .normal, .normal => true
  | .exit i, .exit j => Nat.beq i j
  | .ret, .ret => true
  | _, _ => false
/-- What is kept behind a loop, by its ways out. -/
def outOf (n : Nat) : List (Ex × List Sh) → Ex → List Sh
  | [], _ => List.replicate n .dead
  | p :: l, e => match Ex.beq p.1 e with
    | true => p.2
    | false => outOf n l e
theorem shOk_dead (n : Nat) : shOk (List.replicate n .dead) = true := by
  simp only [shOk, List.all_eq_true, List.mem_replicate]
  rintro a ⟨_, rfl⟩
  rfl
theorem outOf_ok {n : Nat} : ∀ {l : List (Ex × List Sh)}, (l.all fun p => Nat.beq p.2.length n && shOk p.2) = true → ∀ e, (outOf n l e).length = n ∧ shOk (outOf n l e) = true
  | [], _, e => ⟨by simp [outOf], shOk_dead n⟩
  | p :: l, h, e => by
    simp only [List.all_cons, Bool.and_eq_true] at h
    simp only [outOf]
    cases Ex.beq p.1 e with
    | true => exact ⟨nbeq_true h.1.1, h.1.2⟩
    | false => exact outOf_ok (by simpa using h.2) e

/-- The ways out of a loop, each with what follows it. -/
@[reducible] def KT (out : Ex → List Sh) (β : Type) : List Ex → Type
  | [] => Unit
  | e :: r => (Vars (out e) → Option β) × KT out β r
def mkK {out : Ex → List Sh} {β : Type} (K : (e : Ex) → Vars (out e) → Option β) : (es : List Ex) → KT out β es
  | [] => ()
  | e :: r => (K e, mkK K r)
/-- The rounds of a loop, by its step. -/
def runP {σ ρ : Type} (step : (σ → ρ) → σ → ρ) (bot : ρ) : Nat → σ → ρ
  | 0, _ => bot
  | k + 1, x => step (fun y => runP step bot k y) x
structure LoopFn where
  n : Nat
  sh : List Sh
  outs : List (Ex × List Sh)
  es : List Ex
  step : {β : Type} → (Vars sh → Option β) → KT (outOf n outs) β es → Vars sh → Option β
def LoopFn.out (l : LoopFn) : Ex → List Sh := outOf l.n l.outs
def LoopFn.spec (l : LoopFn) (F : Nat) : LoopSpec := ⟨l.sh, fun x K => runP (fun rec x => l.step rec (mkK (fun e y => K e (encode (l.out e) y)) l.es) x) none F x⟩
def mkL (F : Nat) : List (Nat × LoopFn) → Nat → Option LoopSpec
  | [], _ => none
  | p :: l, cur => match Nat.beq cur p.1 with
    | true => some (p.2.spec F)
    | false => mkL F l cur

theorem mkL_find {F : Nat} : ∀ {l : List (Nat × LoopFn)} {cur : Nat} {s : LoopSpec}, mkL F l cur = some s → ∃ p, p ∈ l ∧ p.1 = cur ∧ s = p.2.spec F
  | [], _, _, h => by simp [mkL] at h
  | p :: l, cur, s, h => by
    simp only [mkL] at h
    cases hb : Nat.beq cur p.1 with
    | true => rw [hb] at h; simp at h; exact ⟨p, by simp, (nbeq_true hb).symm, h.symm⟩
    | false =>
      rw [hb] at h
      obtain ⟨q, h1, h2, h3⟩ := mkL_find h
      exact ⟨q, by simp [h1], h2, h3⟩

/-- A loop's step is what one round comes to. -/
def StepOk (E : Env) (L : Nat → Option LoopSpec) (cur : Nat) (body : Code) (l : LoopFn) : Prop :=
  ∀ {β : Type} (k : Nat) (x : Vars l.sh) (K : (e : Ex) → Vars (l.out e) → Option β), iterV E L cur body l.sh l.out (k + 1) x K = l.step (fun y => iterV E L cur body l.sh l.out k y K) (mkK K l.es) x

theorem step_run {L : Nat → Option LoopSpec} {cur : Nat} {body : Code} {l : LoopFn} (h : StepOk E L cur body l) {β : Type} (K : (e : Ex) → Vars (l.out e) → Option β) : ∀ (k : Nat) (x : Vars l.sh), iterV E L cur body l.sh l.out k x K = runP (fun rec x => l.step rec (mkK K l.es) x) none k x
  | 0, _ => rfl
  | k + 1, x => (h k x K).trans (congrArg (fun G => l.step G (mkK K l.es) x) (funext (step_run h K k)))

/-- The loops of a code, each with its step. -/
def LoopsOk (E : Env) (L : Nat → Option LoopSpec) (n : Nat) : List (Nat × Code) → List (Nat × LoopFn) → Prop
  | [], [] => True
  | p :: ps, q :: qs => (Nat.beq q.1 p.1 && Nat.beq q.2.sh.length n && Nat.beq q.2.n n && (q.2.outs.all fun r => Nat.beq r.2.length n && shOk r.2) && !(qs.any fun r => Nat.beq r.1 q.1)) = true ∧ StepOk E L p.1 p.2 q.2 ∧ LoopsOk E L n ps qs
  | _, _ => False

theorem LoopsOk.nil {L : Nat → Option LoopSpec} {n : Nat} : LoopsOk E L n [] [] := trivial
theorem LoopsOk.cons {L : Nat → Option LoopSpec} {n : Nat} {p : Nat × Code} {ps : List (Nat × Code)} {q : Nat × LoopFn} {qs : List (Nat × LoopFn)}
    (h1 : (Nat.beq q.1 p.1 && Nat.beq q.2.sh.length n && Nat.beq q.2.n n && (q.2.outs.all fun r => Nat.beq r.2.length n && shOk r.2) && !(qs.any fun r => Nat.beq r.1 q.1)) = true)
    (h2 : StepOk E L p.1 p.2 q.2) (h3 : LoopsOk E L n ps qs) : LoopsOk E L n (p :: ps) (q :: qs) := ⟨h1, h2, h3⟩

theorem LoopsOk.key {L : Nat → Option LoopSpec} {n : Nat} : ∀ {ps : List (Nat × Code)} {ls : List (Nat × LoopFn)}, LoopsOk E L n ps ls → ∀ p, p ∈ ps → ls.any (fun r => Nat.beq r.1 p.1) = true
  | [], [], _, p, hp => by cases hp
  | p :: ps, q :: qs, h, p', hp => by
    obtain ⟨h1, _, h3⟩ := h
    simp only [Bool.and_eq_true] at h1
    simp only [List.any_cons, Bool.or_eq_true]
    rcases List.mem_cons.1 hp with rfl | hp
    · exact .inl h1.1.1.1.1
    · exact .inr (h3.key _ hp)
  | [], _ :: _, h, _, _ => h.elim
  | _ :: _, [], h, _, _ => h.elim

theorem LoopsOk.get {L : Nat → Option LoopSpec} {n : Nat} : ∀ {ps : List (Nat × Code)} {ls : List (Nat × LoopFn)}, LoopsOk E L n ps ls → ∀ p, p ∈ ps → ∀ q, q ∈ ls → q.1 = p.1 →
    q.2.sh.length = n ∧ (∀ e, (q.2.out e).length = n ∧ shOk (q.2.out e) = true) ∧ StepOk E L p.1 p.2 q.2
  | [], [], _, p, hp, _, _, _ => by cases hp
  | p :: ps, q :: qs, h, p', hp, q', hq, e => by
    obtain ⟨h1, h2, h3⟩ := h
    simp only [Bool.and_eq_true, Bool.not_eq_true', List.any_eq_false] at h1
    rcases List.mem_cons.1 hp with rfl | hp
    · rcases List.mem_cons.1 hq with rfl | hq
      · refine ⟨nbeq_true h1.1.1.1.2, ?_, h2⟩
        have h4 := nbeq_true h1.1.1.2
        simp only [LoopFn.out]
        rw [h4]
        exact outOf_ok h1.1.2
      · have := h1.2 q' hq
        rw [e, ← nbeq_true h1.1.1.1.1] at this
        exact absurd (Nat.beq_refl _) this
    · rcases List.mem_cons.1 hq with rfl | hq
      · have := h3.key p' hp
        simp only [List.any_eq_true] at this
        obtain ⟨r, hr, hr2⟩ := this
        have h5 := h1.2 r hr
        rw [nbeq_true hr2, ← e] at h5
        exact absurd (Nat.beq_refl _) h5
      · exact h3.get p' hp q' hq e
  | [], _ :: _, h, _, _, _, _, _ => h.elim
  | _ :: _, [], h, _, _, _, _, _ => h.elim

/-- The loop of a code by its number. -/
def bodyIn : List (Nat × Code) → Nat → Code
  | [], _ => .skip
  | p :: l, i => match Nat.beq p.1 i with
    | true => p.2
    | false => bodyIn l i
def fbody (fn : Func) : Code := fn.body.getD .skip
def loopAt (fn : Func) (i : Nat) : Code := bodyIn (loopsIn 0 (fbody fn)) i
def loopKeys (fn : Func) : List Nat := (loopsIn 0 (fbody fn)).map (·.1)

theorem loops_eq : ∀ {l : List (Nat × Code)}, (l.map (·.1)).Nodup → l = (l.map (·.1)).map fun i => (i, bodyIn l i)
  | [], _ => rfl
  | p :: l, h => by
    simp only [List.map_cons, List.nodup_cons] at h
    simp only [List.map_cons]
    have e : bodyIn (p :: l) p.1 = p.2 := by simp [bodyIn]
    rw [e]
    congr 1
    have := loops_eq h.2
    refine this.trans (List.map_congr_left fun i hi => ?_)
    have hne : Nat.beq p.1 i = false := by
      cases hb : Nat.beq p.1 i with
      | false => rfl
      | true => exact absurd (nbeq_true hb ▸ hi) h.1
    simp [bodyIn, hne]

/-- One function more. -/
theorem EnvOk.next (hE : EnvOk G P E) (hm : P.follows .mixedOrders = true) {e : Entry} {fn : Func} (hf : P.funcs[e.f]? = some fn) (hname : ((fn.name == "runtime.NumGoroutine") || !fn.body.isSome) = false) {F : Nat} {ls : List (Nat × LoopFn)} {ks : List Nat}
    (hk : loopKeys fn = ks) (hn : ks.Nodup) (hL : LoopsOk E (mkL F ls) fn.ntmps (ks.map fun i => (i, loopAt fn i)) ls) (heq : ∀ x, evF E (mkL F ls) fn e.outs (mkArgs e.ins x) = e.fn x) : EnvOk G P (E.ext e) := by
  simp only [Bool.or_eq_false_iff, Bool.not_eq_false'] at hname
  obtain ⟨c, hb⟩ := Option.isSome_iff_exists.1 hname.2
  have hc : fbody fn = c := by simp [fbody, hb]
  have hks : (loopsIn 0 c).map (·.1) = ks := by rw [← hk, loopKeys, hc]
  have hl : loopsIn 0 c = ks.map fun i => (i, loopAt fn i) := by
    have := loops_eq (l := loopsIn 0 c) (hks ▸ hn)
    rw [hks] at this
    simp only [loopAt, hc]
    exact this
  refine hE.ext fun x r hx => contract_of hE hm hf hname.1 hb (L := mkL F ls) (fun p hp s hs => ?_) ((heq x).trans hx)
  obtain ⟨q, h1, h2, rfl⟩ := mkL_find hs
  obtain ⟨h3, h4, h6⟩ := hL.get p (hl ▸ hp) q h1 h2
  exact ⟨h3, q.2.out, h4, fun x K r hr => ⟨F, (step_run h6 (fun e y => K e (encode (q.2.out e) y)) F x).trans hr⟩⟩
end
end Go.Ev
/-
  An argument that can be read through is a content.
-/
namespace Go.Ev

/-- No pointer, no function in it. -/
def Ty.plain : Ty → Bool
  | .ptr _ | .fn _ _ | .fnu => false
  | .prod a b => a.plain && b.plain
  | .sl e => e.plain
  | _ => true
/-- Numbers in the range of their kinds, lengths in the range of lengths. -/
def FitsEl : (t : Ty) → El t → Prop
  | .int k, x => (Lit.int k x).wf = true
  | .str, s => s.size ≤ maxLen
  | .sl e, xs => xs.length ≤ maxLen ∧ ∀ x, x ∈ xs → FitsEl e x
  | .prod a b, x => FitsEl a x.1 ∧ FitsEl b x.2
  | _, _ => True

theorem mapM_all {α β : Type} {f : α → Option β} : ∀ {l : List α} {ys : List β}, l.mapM f = some ys → ∀ a, a ∈ l → ∃ y, f a = some y
  | [], _, _, a, ha => by cases ha
  | b :: l, ys, h, a, ha => by
    rw [List.mapM_cons] at h
    cases hb : f b with
    | none => simp [hb] at h
    | some y =>
      cases hl : l.mapM f with
      | none => simp [hb, hl] at h
      | some zs =>
        rcases List.mem_cons.1 ha with rfl | ha
        · exact ⟨y, hb⟩
        · exact mapM_all hl a ha

theorem mapM_at {α β : Type} {f : α → Option β} : ∀ {l : List α} {ys : List β}, l.mapM f = some ys → ys.length = l.length ∧ ∀ (i : Nat) (h : i < l.length) (h' : i < ys.length), f l[i] = some ys[i]
  | [], ys, h => by simp at h; subst h; simp
  | b :: l, ys, h => by
    rw [List.mapM_cons] at h
    cases hb : f b with
    | none => simp [hb] at h
    | some y =>
      cases hl : l.mapM f with
      | none => simp [hb, hl] at h
      | some zs =>
        simp [hb, hl] at h
        subst h
        obtain ⟨h1, h2⟩ := mapM_at hl
        refine ⟨by simp [h1], fun i hi hi' => ?_⟩
        cases i with
        | zero => exact hb
        | succ i => exact h2 i (by simpa using hi) (by simpa using hi')

theorem list_of {α : Type} {p : Nat → α → Prop} : ∀ (n : Nat), (∀ i, i < n → ∃ x, p i x) → ∃ xs : List α, xs.length = n ∧ ∀ (i : Nat) (h : i < xs.length), p i xs[i]
  | 0, _ => ⟨[], rfl, fun i h => by simp at h⟩
  | n + 1, h => by
    obtain ⟨xs, h1, h2⟩ := list_of n fun i hi => h i (by omega)
    obtain ⟨x, hx⟩ := h n (by omega)
    refine ⟨xs ++ [x], by simp [h1], fun i hi => ?_⟩
    by_cases hi' : i < xs.length
    · rw [List.getElem_append_left hi']; exact h2 i hi'
    · have : i = n := by simp at hi; omega
      subst this
      rw [List.getElem_append_right (by omega)]
      simpa using hx

theorem cell?_some {w : World} {a : Addr} {v : Value} (h : w.cell? a = some v) : a.spot = none ∧ ∃ c T fr, w.heap[a.block]? = some (.cells c T fr) ∧ c[a.off]? = some v := by
  unfold World.cell? at h
  split at h
  case h_2 => cases h
  rename_i c T fr hc
  cases hs : a.spot with
  | some q => simp [hs] at h
  | none => simp [hs] at h; exact ⟨rfl, c, T, fr, hc, h⟩

theorem mem_of_cells? {w : World} {a : Addr} {n : Nat} {ds : List Value} (hn : 0 < n) (h : w.cells? 0 a n = some ds) : ds.length = n ∧ a = ⟨a.block, a.off, none⟩ ∧ a.block < w.heap.size ∧ Mem w a.block a.off ds := by
  simp only [World.cells?, Nat.zero_le, if_true] at h
  obtain ⟨h1, h2⟩ := mapM_at h
  simp only [List.length_range] at h1 h2
  have h0 := h2 0 hn (by omega)
  simp only [List.getElem_range, Addr.add, if_true] at h0
  obtain ⟨hs, c, T, fr, hc, hv⟩ := cell?_some h0
  refine ⟨h1, ?_, (Array.getElem?_eq_some_iff.1 hc).1, c, T, fr, hc, fun j hj => ?_⟩
  · obtain ⟨b, o, s⟩ := a; simp at hs; rw [hs]
  · have hj' := h2 j (by omega) hj
    simp only [List.getElem_range] at hj'
    obtain ⟨_, c', T', fr', hc', hv'⟩ := cell?_some hj'
    have e1 : (a.add j).block = a.block := by unfold Addr.add; split <;> rfl
    have e2 : (a.add j).off = a.off + j := by
      unfold Addr.add; split
      · rename_i h0; rw [h0]; rfl
      · rfl
    rw [e1, hc] at hc'
    cases hc'
    rw [e2] at hv'
    exact hv'

section
variable {H : Type} {enc : TypeId × Value → H} {P : Program} {W : World} {spare : Nat → Bool} {held : Bool} (tg : Nat → Value)

theorem fields_rep {n fuel : Nat} {cs : List Value}
    (ih : ∀ {t : Ty} {n : Nat} {id : TypeId} {cs : List Value} {d : DataW H} {ps : List MemPlace}, tyOk P n id t = true → t.plain = true → DataW.trod enc P W 0 spare held fuel id cs = some (d, ps) → ∃ x : El t, Rep tg W (· < W.heap.size) t .no x cs [] ∧ FitsEl t x) :
    ∀ {fs : List Field} {off : Nat} {t : Ty}, fieldsOk (tyOk P n) fs off t = true → t.plain = true → cs.length = off + t.size →
      (∀ f, f ∈ fs → ∃ y, DataW.trod enc P W 0 spare held fuel f.type ((cs.drop f.offset).take (P.cellsOf f.type)) = some y) → ∃ x : El t, Rep tg W (· < W.heap.size) t .no x (cs.drop off) [] ∧ FitsEl t x
  | [], off, .unit, _, _, hl, _ => ⟨(), ⟨by simp [Ty.size] at hl; simp [hl], rfl⟩, trivial⟩
  | f :: fs, off, .prod a b, hk, hp, hl, hf => by
    simp only [fieldsOk, Bool.and_eq_true] at hk
    simp only [Ty.plain, Bool.and_eq_true] at hp
    simp only [Ty.size] at hl
    obtain ⟨⟨d, ps⟩, hy⟩ := hf f (by simp)
    obtain ⟨i, k1, k2, k3⟩ := tyOk_info hk.1.2
    have hc : P.cellsOf f.type = a.size := by simp [Program.cellsOf, k1, k2]
    rw [hc, nbeq_true hk.1.1] at hy
    obtain ⟨x, hx, fx⟩ := ih hk.1.2 hp.1 hy
    obtain ⟨y, hy, fy⟩ := fields_rep ih hk.2 hp.2 (by omega) fun g hg => hf g (by simp [hg])
    refine ⟨(x, y), ⟨_, _, [], [], ?_, rfl, hx, hy⟩, fx, fy⟩
    rw [← List.drop_drop]; exact (List.take_append_drop a.size (cs.drop off)).symm
  | [], off, .prod _ _, hk, _, _, _ => by simp [fieldsOk] at hk
  | _ :: _, off, .unit, hk, _, _, _ => by simp [fieldsOk] at hk
  | _, off, .int _, hk, _, _, _ => by simp [fieldsOk] at hk
  | _, off, .bool, hk, _, _, _ => by simp [fieldsOk] at hk
  | _, off, .fnu, hk, _, _, _ => by simp [fieldsOk] at hk
  | _, off, .str, hk, _, _, _ => by simp [fieldsOk] at hk
  | _, off, .sl _, hk, _, _, _ => by simp [fieldsOk] at hk
  | _, off, .ptr _, hk, _, _, _ => by simp [fieldsOk] at hk
  | _, off, .fn _ _, hk, _, _, _ => by simp [fieldsOk] at hk

theorem trod_int {id : TypeId} {fuel : Nat} {cs : List Value} {r : DataW H × List MemPlace} {k : IntKind} (u : P.underlying id = some (.int k)) (h : DataW.trod enc P W 0 spare held (fuel + 1) id cs = some r) : ∃ n, cs = [.int k n] ∧ (Lit.int k n).wf = true := by
  unfold DataW.trod at h
  rw [u] at h
  cases cs with
  | nil => simp at h
  | cons v l =>
    cases l with
    | cons _ _ => cases v <;> simp at h
    | nil =>
      cases v <;> simp at h
      rename_i k' n
      obtain ⟨⟨rfl, h2⟩, _⟩ := h
      exact ⟨n, rfl, h2⟩
theorem trod_bool {id : TypeId} {fuel : Nat} {cs : List Value} {r : DataW H × List MemPlace} (u : P.underlying id = some .bool) (h : DataW.trod enc P W 0 spare held (fuel + 1) id cs = some r) : ∃ n, cs = [.bool n] := by
  unfold DataW.trod at h
  rw [u] at h
  cases cs with
  | nil => simp at h
  | cons v l =>
    cases l with
    | cons _ _ => cases v <;> simp at h
    | nil =>
      cases v <;> simp at h
      exact ⟨_, rfl⟩
theorem trod_str {id : TypeId} {fuel : Nat} {cs : List Value} {r : DataW H × List MemPlace} (u : P.underlying id = some .string) (h : DataW.trod enc P W 0 spare held (fuel + 1) id cs = some r) : ∃ n, cs = [.string n] ∧ n.size ≤ maxLen := by
  unfold DataW.trod at h
  rw [u] at h
  cases cs with
  | nil => simp at h
  | cons v l =>
    cases l with
    | cons _ _ => cases v <;> simp at h
    | nil =>
      cases v <;> simp at h
      exact ⟨_, rfl, h.1⟩
theorem trod_slice {id e : TypeId} {fuel : Nat} {cs : List Value} {r : DataW H × List MemPlace} (u : P.underlying id = some (.slice e)) (h : DataW.trod enc P W 0 spare held (fuel + 1) id cs = some r) :
    cs = [.slice none 0 0] ∨ ∃ a len cap ys, cs = [.slice (some a) len cap] ∧ len ≤ cap ∧ cap ≤ maxLen ∧ (List.range len).mapM (fun i => (W.cells? 0 (a.add (i * P.cellsOf e)) (P.cellsOf e)).bind (DataW.trod enc P W 0 spare held fuel e)) = some ys := by
  unfold DataW.trod at h
  rw [u] at h
  cases cs with
  | nil => simp at h
  | cons v l =>
    cases l with
    | cons _ _ => cases v <;> simp at h
    | nil =>
      cases v <;> simp at h
      rename_i A len cap
      cases A with
      | none =>
        cases len <;> cases cap <;> simp at h
        exact .inl rfl
      | some a =>
        simp at h
        obtain ⟨⟨h1, h2⟩, h3⟩ := h
        cases hm : (List.range len).mapM (fun i => (W.cells? 0 (a.add (i * P.cellsOf e)) (P.cellsOf e)).bind (DataW.trod enc P W 0 spare held fuel e)) with
        | none => rw [hm] at h3; cases h3
        | some ys => exact .inr ⟨a, len, cap, ys, rfl, h1, h2, hm⟩
theorem trod_struct {id : TypeId} {fs : Array Field} {fuel : Nat} {cs : List Value} {r : DataW H × List MemPlace} (u : P.underlying id = some (.struct fs)) (h : DataW.trod enc P W 0 spare held (fuel + 1) id cs = some r) :
    cs.length = P.cellsOf id ∧ ∃ ys, fs.toList.mapM (fun f => DataW.trod enc P W 0 spare held fuel f.type ((cs.drop f.offset).take (P.cellsOf f.type))) = some ys := by
  unfold DataW.trod at h
  rw [u] at h
  have key : (if cs.length = P.cellsOf id then (fs.toList.mapM fun f => DataW.trod enc P W 0 spare held fuel f.type ((cs.drop f.offset).take (P.cellsOf f.type))).map fun xs => (DataW.agg (xs.map (·.1)), xs.flatMap (·.2)) else none) = some r := by
    cases cs with
    | nil => simpa using h
    | cons v l =>
      cases l with
      | cons _ _ => cases v <;> simpa using h
      | nil => cases v <;> simpa using h
  split at key
  · rename_i hl
    refine ⟨hl, ?_⟩
    cases hm : fs.toList.mapM (fun f => DataW.trod enc P W 0 spare held fuel f.type ((cs.drop f.offset).take (P.cellsOf f.type))) with
    | none => simp [hm] at key
    | some ys => exact ⟨ys, rfl⟩
  · cases key

/-- What reads through is a content. -/
theorem rep_of_trod : ∀ (fuel : Nat) {t : Ty} {n : Nat} {id : TypeId} {cs : List Value} {d : DataW H} {ps : List MemPlace}, tyOk P n id t = true → t.plain = true →
    DataW.trod enc P W 0 spare held fuel id cs = some (d, ps) → ∃ x : El t, Rep tg W (· < W.heap.size) t .no x cs [] ∧ FitsEl t x
  | 0, t, n, id, cs, d, ps, _, _, h => by simp [DataW.trod] at h
  | fuel + 1, t, n, id, cs, d, ps, ht, hp, h => by
    obtain ⟨i, k1, k2, k3⟩ := tyOk_info ht
    have hc : P.cellsOf id = t.size := by simp [Program.cellsOf, k1, k2]
    obtain ⟨de, u1, u2, u3⟩ := tyOk_und ht
    cases t with
    | int k =>
      subst u3
      obtain ⟨n, rfl, h2⟩ := trod_int u1 h
      exact ⟨n, ⟨rfl, rfl⟩, h2⟩
    | bool =>
      subst u3
      obtain ⟨n, rfl⟩ := trod_bool u1 h
      exact ⟨n, ⟨rfl, rfl⟩, trivial⟩
    | str =>
      subst u3
      obtain ⟨n, rfl, h2⟩ := trod_str u1 h
      exact ⟨n, ⟨rfl, rfl⟩, h2⟩
    | sl e =>
      obtain ⟨m, e', rfl, v1, v2⟩ := u3
      obtain ⟨i', j1, j2, j3⟩ := tyOk_info v1
      have hce : P.cellsOf e' = e.size := by simp [Program.cellsOf, j1, j2]
      rcases trod_slice u1 h with rfl | ⟨a, len, cap, ys, rfl, hh1, hh2, hm⟩
      · exact ⟨[], ⟨none, 0, 0, rfl, rfl, Nat.le_refl _, rfl, fun i hi => by simp at hi⟩, by simp, by simp⟩
      · rw [hce] at hm
        obtain ⟨xs, q1, q2⟩ := list_of (p := fun i (x : El e) => ∃ b off ds, (some a : Option Addr) = some ⟨b, off, none⟩ ∧ b < W.heap.size ∧ ds.length = e.size ∧ Mem W b (off + i * e.size) ds ∧ Rep tg W (· < W.heap.size) e .no x ds [] ∧ FitsEl e x) len fun i hi => by
          obtain ⟨y, hy⟩ := mapM_all hm i (by simpa using hi)
          cases hd : W.cells? 0 (a.add (i * e.size)) e.size with
          | none => simp [hd] at hy
          | some ds =>
            rw [hd] at hy
            obtain ⟨d', ps'⟩ := y
            obtain ⟨x, hx, fx⟩ := rep_of_trod fuel v1 hp hy
            obtain ⟨r1, r2, r3, r4⟩ := mem_of_cells? v2 hd
            obtain ⟨y0, hy0⟩ := mapM_all hm 0 (by simp; omega)
            cases hd0 : W.cells? 0 (a.add (0 * e.size)) e.size with
            | none => rw [hd0] at hy0; cases hy0
            | some ds0 =>
              obtain ⟨_, s2, _, _⟩ := mem_of_cells? v2 hd0
              simp only [Nat.zero_mul, Addr.add, if_true] at s2
              refine ⟨x, a.block, a.off, ds, by rw [← s2], ?_, r1, ?_, hx, fx⟩
              · unfold Addr.add at r3; split at r3 <;> exact r3
              · unfold Addr.add at r4
                split at r4
                · rename_i h0; rw [h0]; exact r4
                · exact r4
        refine ⟨xs, ⟨some a, len, cap, rfl, q1.symm, hh1, rfl, fun i hi => ?_⟩, by rw [q1]; exact Nat.le_trans hh1 hh2, fun x hx => ?_⟩
        · obtain ⟨b, off, ds, z1, z2, z3, z4, z5, _⟩ := q2 i hi
          exact ⟨b, off, ds, z1, z2, z3, z4, z5⟩
        · obtain ⟨i, hi, rfl⟩ := List.getElem_of_mem hx
          obtain ⟨b, off, ds, z1, z2, z3, z4, z5, z6⟩ := q2 i hi
          exact z6
    | unit =>
      obtain ⟨fs, rfl⟩ := u3
      obtain ⟨hl, _⟩ := trod_struct u1 h
      rw [hc] at hl
      exact ⟨(), ⟨by simpa [Ty.size] using hl, rfl⟩, trivial⟩
    | prod a b =>
      obtain ⟨m, fs, rfl, hk⟩ := u3
      obtain ⟨hl, ys, hm⟩ := trod_struct u1 h
      rw [hc] at hl
      have := fields_rep (tg := tg) (cs := cs) (fun h1 h2 h3 => rep_of_trod fuel h1 h2 h3) hk hp (by simpa using hl) (mapM_all hm)
      simpa using this
    | ptr _ => simp [Ty.plain] at hp
    | fn _ _ => simp [Ty.plain] at hp
    | fnu => simp [Ty.plain] at hp
end
end Go.Ev
/-
  A contract used at a call that is entered; what a law's row wants.
-/
namespace Go.Ev

section
variable {H : Type} {enc : TypeId × Value → H} {P : Program} {W : World} {spare : Nat → Bool} {held : Bool} (tg : Nat → Value)

theorem arg_rep {t : Ty} {n : Nat} {id : TypeId} {v : Value} {d : DataW H} {ps : List MemPlace} {r : Reach} {base : Nat} (ht : tyOk P n id t = true) (hp : t.plain = true) (hv : Value.okWide P W r base id v)
    (h : DataW.Trod enc P W 0 spare held id v d ps) : ∃ (cs : List Value) (x : El t), v = mkVal t cs ∧ Rep tg W (· < W.heap.size) t .no x cs [] ∧ FitsEl t x := by
  obtain ⟨fuel, h⟩ := h
  obtain ⟨x, hx, fx⟩ := rep_of_trod tg fuel ht hp h
  obtain ⟨de, u1, u2, u3⟩ := tyOk_und ht
  refine ⟨_, x, ?_, hx, fx⟩
  cases t with
  | int k => subst u3; obtain ⟨m, rfl⟩ := WideShapes.okWide_int u1 hv; rfl
  | bool => subst u3; obtain ⟨m, rfl⟩ := WideShapes.okWide_bool u1 hv; rfl
  | str => subst u3; obtain ⟨m, rfl⟩ := WideShapes.okWide_string u1 hv; rfl
  | sl e => obtain ⟨m, e', rfl, _⟩ := u3; obtain ⟨A, l, c, rfl⟩ := WideShapes.okWide_slice u1 hv; rfl
  | unit => obtain ⟨fs, rfl⟩ := u3; obtain ⟨cs, rfl, _⟩ := WideShapes.okWide_struct u1 hv; simp [mkVal, Ty.agg, Value.cells]
  | prod a b => obtain ⟨m, fs, rfl, _⟩ := u3; obtain ⟨cs, rfl, _⟩ := WideShapes.okWide_struct u1 hv; simp [mkVal, Ty.agg, Value.cells]
  | ptr _ => simp [Ty.plain] at hp
  | fn _ _ => simp [Ty.plain] at hp
  | fnu => simp [Ty.plain] at hp
end

theorem Ty.beq_same : ∀ (t : Ty), Ty.beq t t = true
  | .int k => by cases k <;> rfl
  | .bool => rfl
  | .fnu => rfl
  | .str => rfl
  | .unit => rfl
  | .sl e => Ty.beq_same e
  | .ptr e => Ty.beq_same e
  | .prod a b => by simp [Ty.beq, Ty.beq_same a, Ty.beq_same b]
  | .fn f c => by simp [Ty.beq, Ty.beq_same c]
theorem castTo_same {t : Ty} {x : El t} : castTo t x = some x := by
  unfold castTo
  rw [dif_pos (Ty.beq_same t)]

theorem decArgs_mk : ∀ (ts : List Ty) (x : Elts ts), decArgs ts (mkArgs ts x) = some x
  | [], _ => rfl
  | t :: r, (x, y) => by
    simp only [mkArgs, decArgs]
    rw [castTo_same, decArgs_mk r y]

section
variable {G : GP} {P : Program} {E : Env}
/-- The newest function's contract. -/
theorem EnvOk.contract {e : Entry} (h : EnvOk G P (E.ext e)) {x : Elts e.ins} {r : Outs e.outs} (hr : e.fn x = some r) : Contract G P e.f (mkArgs e.ins x) (mkRes e.outs r) := by
  refine h.Γ e.f (mkArgs e.ins x) (mkRes e.outs r) ?_
  simp only [Env.ext, Nat.beq_refl, decArgs_mk, hr]
  rfl

/-- A law that says true. -/
theorem law_calls {f : Nat} {fn : Func} {args : List Ct} {φ : Fl} (h : Contract G P f args [⟨.bool, φ, true⟩]) (hf : P.funcs[f]? = some fn) (hname : ((fn.name == "runtime.NumGoroutine") || !fn.body.isSome) = false) {W : World} {vals : List Value} (hG : G.G W)
    (ha : ArgsRep (fun _ => undef) W (· < W.heap.size) args vals) : Calls P f vals.toArray W fun e w' => e = .returned (.bool true) ∧ RowKit.Below W.heap.size W w' := by
  have := h (fun _ => undef) W (· < W.heap.size) vals hG (fun _ h => h) ha
  simp only [Bool.or_eq_false_iff, Bool.not_eq_false'] at hname
  obtain ⟨c, hb⟩ := Option.isSome_iff_exists.1 hname.2
  have hrun : (callFunc f vals.toArray).run P W = .ok (.enter f vals.toArray) W := by
    have hn : ¬ fn.name = "runtime.NumGoroutine" := by simpa using hname.1
    simp [callFunc, hf, hn, hb]
  unfold CallsV at this
  rw [hrun] at this
  refine this.mono ?_
  rintro e w' ⟨v, rfl, fp, hbel, _, _, cs, rfl, hr⟩
  obtain ⟨rfl, _⟩ := hr
  exact ⟨rfl, hbel⟩
end
end Go.Ev
/-
  Functions that write into what their first argument owns: contracts.
-/
namespace Go.Ev

/-- Owned to the bottom, each slice at the top with its cell's place as its mark. -/
def markFl : Nat → Ty → Fl
  | o, .sl e => .own (some o) (fullFl e)
  | o, .prod a b => .pr (markFl o a) (markFl (o + a.size) b)
  | _, _ => .no
/-- The slices of y in x. -/
def merge : (t : Ty) → El t → El t → El t
  | .sl _, _, y => y
  | .prod a b, x, y => (merge a x.1 y.1, merge b x.2 y.2)
  | .int _, x, _ => x
  | .bool, x, _ => x
  | .fnu, x, _ => x
  | .str, x, _ => x
  | .unit, x, _ => x
  | .ptr _, x, _ => x
  | .fn _ _, x, _ => x
def startW (n : Nat) (t : Ty) (x : El t) (args : List Ct) : St := .v t (markFl 0 t) x :: (args.map (fun c => .v c.t .no c.x) ++ List.replicate (n - (args.length + 1)) .dead)
/-- A function at contents, of which the first is written into. -/
def evFW (E : Env) (L : Nat → Option LoopSpec) (fn : Func) (os : List (Ty × Fl)) (s0 : Nat) (t : Ty) (x : El t) (args : List Ct) : Option (Outs os × El t) := match fn.body, Nat.ble (args.length + 1) fn.ntmps, (os.all fun o => o.1.flat) && t.plain with
  | some c, true, true => exec E L 0 c (startW fn.ntmps t x args) fun e st => match e with
    | .exit _ => none
    | _ => match fin E os fn.results.toList st, ownerAt st.at s0 with
      | some l, some ⟨t', φ, y⟩ => match castTo t y, weaker t (markFl 0 t) φ with
        | some z, true => some (l, merge t x z)
        | _, _ => none
      | _, _ => none
  | _, _, _ => none

theorem full_plain : ∀ {t : Ty}, t.plain = true → full t (fullFl t) = true
  | .int _, _ => rfl
  | .bool, _ => rfl
  | .fnu, _ => rfl
  | .str, _ => rfl
  | .unit, _ => rfl
  | .sl e, h => full_plain (t := e) (by simpa [Ty.plain] using h)
  | .prod a b, h => by
    simp only [Ty.plain, Bool.and_eq_true] at h
    simp only [fullFl, full, Fl.l, Fl.r, Bool.and_eq_true]
    exact ⟨full_plain h.1, full_plain h.2⟩
  | .ptr _, h => by simp [Ty.plain] at h
  | .fn _ _, h => by simp [Ty.plain] at h
theorem full_mark : ∀ {t : Ty} {o : Nat}, t.plain = true → full t (markFl o t) = true
  | .int _, _, _ => rfl
  | .bool, _, _ => rfl
  | .fnu, _, _ => rfl
  | .str, _, _ => rfl
  | .unit, _, _ => rfl
  | .sl e, _, h => full_plain (t := e) (by simpa [Ty.plain] using h)
  | .prod a b, _, h => by
    simp only [Ty.plain, Bool.and_eq_true] at h
    simp only [markFl, full, Fl.l, Fl.r, Bool.and_eq_true]
    exact ⟨full_mark h.1, full_mark h.2⟩
  | .ptr _, _, h => by simp [Ty.plain] at h
  | .fn _ _, _, h => by simp [Ty.plain] at h

section
variable {tg tg0 : Nat → Value} {w w' : World} {B B' B0 : Nat → Prop}

theorem mark_rep : ∀ {t : Ty} {x : El t} {cs : List Value} {fp : List Nat} {o : Nat}, Rep tg0 w B0 t (fullFl t) x cs fp → (∀ j v, cs[j]? = some v → tg (o + j) = v) → t.plain = true → Rep tg w B t (markFl o t) x cs fp
  | .int _, _, _, _, _, h, _, _ => h
  | .bool, _, _, _, _, h, _, _ => h
  | .fnu, _, _, _, _, h, _, _ => h
  | .str, _, _, _, _, h, _, _ => h
  | .unit, _, _, _, _, h, _, _ => h
  | .prod a b, x, cs, fp, o, h, ht, hp => by
    simp only [Ty.plain, Bool.and_eq_true] at hp
    obtain ⟨c1, c2, f1, f2, rfl, rfl, h1, h2⟩ := h
    refine ⟨c1, c2, f1, f2, rfl, rfl, mark_rep h1 (fun j v hj => ht j v (by rw [List.getElem?_append_left (List.getElem?_eq_some_iff.1 hj).1]; exact hj)) hp.1,
      mark_rep h2 (fun j v hj => ?_) hp.2⟩
    rw [Nat.add_assoc]
    exact ht _ v (by rw [← h1.len, List.getElem?_append_right (by omega)]; simpa using hj)
  | .sl e, xs, cs, fp, o, h, ht, hp => by
    obtain ⟨A, n, c, rfl, h1, h2, _, h4⟩ := h
    refine ⟨A, n, c, rfl, h1, h2, fun q hq => ?_, h4.imp id ?_⟩
    · simp at hq; subst hq; simpa using ht 0 _ rfl
    · rintro ⟨b, off, ccs, T, fps, rfl, h5, h6, h7, rfl, h8⟩
      exact ⟨b, off, ccs, T, fps, rfl, h5, h6, h7, rfl, fun i hi => (h8 i hi).toFull (full_plain (by simpa [Ty.plain] using hp))⟩
  | .ptr _, _, _, _, _, _, _, hp => by simp [Ty.plain] at hp
  | .fn _ _, _, _, _, _, _, _, hp => by simp [Ty.plain] at hp

theorem merge_rep : ∀ {t : Ty} {x y : El t} {cs cs' : List Value} {fp fp' : List Nat} {o : Nat}, Rep tg w' B t (markFl o t) y cs' fp' → (∀ j v, cs[j]? = some v → tg (o + j) = v) → Rep tg0 w B0 t (fullFl t) x cs fp → t.plain = true →
    Rep tg w' B' t (markFl o t) (merge t x y) cs fp'
  | .int _, _, _, _, _, _, _, _, h, _, h0, _ => ⟨h0.1, h.2⟩
  | .bool, _, _, _, _, _, _, _, h, _, h0, _ => ⟨h0.1, h.2⟩
  | .fnu, _, _, _, _, _, _, _, h, _, h0, _ => ⟨h0.1, h.2⟩
  | .str, _, _, _, _, _, _, _, h, _, h0, _ => ⟨h0.1, h.2⟩
  | .unit, _, _, _, _, _, _, _, h, _, h0, _ => ⟨h0.1, h.2⟩
  | .prod a b, x, y, cs, cs', fp, fp', o, h, ht, h0, hp => by
    simp only [Ty.plain, Bool.and_eq_true] at hp
    obtain ⟨c1, c2, f1, f2, rfl, rfl, h1, h2⟩ := h
    obtain ⟨d1, d2, g1, g2, rfl, rfl, k1, k2⟩ := h0
    refine ⟨d1, d2, f1, f2, rfl, rfl, merge_rep h1 (fun j v hj => ht j v (by rw [List.getElem?_append_left (List.getElem?_eq_some_iff.1 hj).1]; exact hj)) k1 hp.1,
      merge_rep h2 (fun j v hj => ?_) k2 hp.2⟩
    rw [Nat.add_assoc]
    exact ht _ v (by rw [← k1.len, List.getElem?_append_right (by omega)]; simpa using hj)
  | .sl e, xs, ys, cs, cs', fp, fp', o, h, ht, h0, hp => by
    have hf := h.full (B' := B') (full_mark hp)
    obtain ⟨A0, n0, c0, rfl, _⟩ := h0
    obtain ⟨A, n, c, rfl, h1, h2, h3, h4⟩ := hf
    have e1 := h3 o rfl
    have e2 : tg o = .slice A0 n0 c0 := by simpa using ht 0 _ rfl
    rw [e2] at e1
    simp at e1
    obtain ⟨rfl, rfl, rfl⟩ := e1
    exact ⟨A0, n0, c0, rfl, h1, h2, h3, h4⟩
  | .ptr _, _, _, _, _, _, _, _, _, _, _, hp => by simp [Ty.plain] at hp
  | .fn _ _, _, _, _, _, _, _, _, _, _, _, hp => by simp [Ty.plain] at hp
end

theorem Rep.retag {tg tg' : Nat → Value} {w : World} {B : Nat → Prop} : ∀ {t : Ty} {x : El t} {cs : List Value} {fp : List Nat}, Rep tg w B t .no x cs fp → Rep tg' w B t .no x cs fp
  | .int _, _, _, _, h => h
  | .bool, _, _, _, h => h
  | .fnu, _, _, _, h => h
  | .str, _, _, _, h => h
  | .unit, _, _, _, h => h
  | .ptr _, _, _, _, h => by
    obtain ⟨rfl, b, off, ds, rfl, hb, hl, hm, hr⟩ := h
    exact ⟨rfl, b, off, ds, rfl, hb, hl, hm, hr.retag⟩
  | .fn _ _, _, _, _, h => by
    obtain ⟨rfl, caps, rfl, hr⟩ := h
    exact ⟨rfl, caps, rfl, hr.retag⟩
  | .prod a b, _, _, _, h => by
    obtain ⟨c1, c2, f1, f2, rfl, rfl, h1, h2⟩ := h
    exact ⟨c1, c2, f1, f2, rfl, rfl, h1.retag, h2.retag⟩
  | .sl e, xs, cs, fp, h => by
    obtain ⟨A, n, c, rfl, h1, h2, rfl, h3⟩ := h
    refine ⟨A, n, c, rfl, h1, h2, rfl, fun i hi => ?_⟩
    obtain ⟨b, off, ds, rfl, hb, hl, hm, hr⟩ := h3 i hi
    exact ⟨b, off, ds, rfl, hb, hl, hm, hr.retag⟩
theorem RepTup.retag {tg tg' : Nat → Value} {w : World} {B : Nat → Prop} : ∀ {l : List Res} {vs : List Value} {fp : List Nat}, RepTup tg w B l vs fp → (l.all fun r => r.t.flat) = true → RepTup tg' w B l vs []
  | [], vs, fp, h, _ => ⟨h.1, rfl⟩
  | r :: l, vs, fp, h, hf => by
    simp only [List.all_cons, Bool.and_eq_true] at hf
    obtain ⟨cs, vs', f1, f2, rfl, rfl, h1, h2⟩ := h
    have k := (h1.flat (w' := w) (B' := B) (φ' := .no) hf.1).1
    exact ⟨cs, vs', [], [], rfl, rfl, ((k.retag (tg' := tg')).flat hf.1).1, h2.retag hf.2⟩
theorem mkRes_flat : ∀ {os : List (Ty × Fl)} {y : Outs os}, (os.all fun o => o.1.flat) = true → ((mkRes os y).all fun r => r.t.flat) = true
  | [], _, _ => rfl
  | (t, φ) :: r, y, h => by
    simp only [List.all_cons, Bool.and_eq_true] at h
    simp only [mkRes, List.all_cons, Bool.and_eq_true]
    exact ⟨h.1, mkRes_flat h.2⟩

section
variable {G : GP} {P : Program} {E : Env}
theorem startW_at {n : Nat} {t : Ty} {x : El t} {args : List Ct} (s : Nat) : St.at (startW n t x args) (s + 1) = match args[s]? with | some c => .v c.t .no c.x | none => .dead := by
  unfold startW St.at
  rw [List.getD_eq_getElem?_getD, List.getElem?_cons_succ]
  by_cases hs : s < args.length
  · rw [List.getElem?_append_left (by simpa using hs)]
    simp [List.getElem?_eq_getElem hs]
  · rw [List.getElem?_append_right (by simpa using hs), List.getElem?_replicate, List.getElem?_eq_none (by omega)]
    split <;> rfl

theorem contract_ofW (hE : EnvOk G P E) (hm : P.follows .mixedOrders = true) {f : Nat} {fn : Func} {c : Code} (hf : P.funcs[f]? = some fn) (hname : (fn.name == "runtime.NumGoroutine") = false) (hb : fn.body = some c) {L : Nat → Option LoopSpec}
    (hL : ∀ p, p ∈ loopsIn 0 c → LoopOk E L fn.ntmps p.1 p.2) {os : List (Ty × Fl)} {s0 : Nat} {t : Ty} {x : El t} {args : List Ct} {l : Outs os} {y : El t} (he : evFW E L fn os s0 t x args = some (l, y)) : ContractW G P f t x args (mkRes os l) y := by
  unfold evFW at he
  split at he
  case h_2 => cases he
  rename_i c' hb' hle hcond
  rw [hb] at hb'
  simp at hb'
  subst hb'
  have hle : args.length + 1 ≤ fn.ntmps := Nat.le_of_ble_eq_true hle
  simp only [Bool.and_eq_true] at hcond
  obtain ⟨hflat, hplain⟩ := hcond
  intro tg0 w Bp cs fp vals hG hBp hnd hlt0 hrep hargs
  have hlt : ∀ b, b ∈ fp → b < w.heap.size := fun b hb => (hlt0 b hb).1
  let tg : Nat → Value := fun q => cs.getD q undef
  have htg : ∀ j v, cs[j]? = some v → tg (0 + j) = v := fun j v hj => by
    show cs.getD (0 + j) undef = v
    rw [Nat.zero_add, List.getD_eq_getElem?_getD, hj]; rfl
  have hargs0 := hargs
  obtain ⟨hlen, hat⟩ := args_at hargs
  have hrun : (callFunc f (mkVal t cs :: vals).toArray).run P w = .ok (.enter f (mkVal t cs :: vals).toArray) w := by
    have hn : ¬ fn.name = "runtime.NumGoroutine" := by simpa using hname
    simp [callFunc, hf, hn, hb]
  unfold CallsV
  rw [hrun]
  let C : Ctx G := { w0 := w, Bp := Bp, ext := fun b => b ∈ fp, bp := hBp, xt := hlt, gok := hG, xg := fun b hb => (hlt0 b hb).2 }
  have hInv : Inv tg C (startW fn.ntmps t x args) { tmps := (mkVal t cs :: vals).toArray ++ Array.replicate (fn.ntmps - (mkVal t cs :: vals).toArray.size) undef, defers := [] } w (fun s => if s = 0 then fp else []) [] := by
    refine { size := by simp [startW, hlen]; omega, defers := rfl, rep := fun s => ?_, refs := fun s u hu => ?_, nodup := fun s => ?_, disj := fun s s' b hne hb hb' => ?_, own := fun s b hb => ?_, xnodup := by simp, xdisj := by simp, xown := by simp, frame := ⟨rfl, rfl, rfl, Nat.le_refl _, fun _ _ _ => rfl⟩ }
    · cases s with
      | zero =>
        show RepAV tg w _ _ _ _ (.v t (markFl 0 t) x) _ fp
        refine ⟨cs, ?_, mark_rep hrep htg hplain⟩
        simp only [Array.getD_eq_getD_getElem?]
        rw [Array.getElem?_append_left (by simp)]
        simp
      | succ s =>
        show RepAV tg w _ _ _ _ (St.at (startW fn.ntmps t x args) (s + 1)) _ []
        rw [startW_at]
        split
        · rename_i d hd
          obtain ⟨ds, h1, h2⟩ := hat s d hd
          refine ⟨ds, ?_, h2.retag.imp fun b hb => .inl hb⟩
          have hs : s < vals.length := (List.getElem?_eq_some_iff.1 h1).1
          simp only [Array.getD_eq_getD_getElem?]
          rw [Array.getElem?_append_left (by simpa using hs)]
          simp [h1]
        · rfl
    · cases s with
      | zero => simp [startW, St.at, refsOf] at hu
      | succ s =>
        rw [startW_at] at hu
        split at hu <;> simp [refsOf] at hu
    · show (if s = 0 then fp else []).Nodup
      split
      · exact hnd
      · simp
    · replace hb : b ∈ (if s = 0 then fp else []) := hb
      replace hb' : b ∈ (if s' = 0 then fp else []) := hb'
      split at hb
      · split at hb'
        · omega
        · simp at hb'
      · simp at hb
    · replace hb : b ∈ (if s = 0 then fp else []) := hb
      split at hb
      · exact ⟨hlt b hb, .inr hb⟩
      · simp at hb
  refine calls_of_wp hf hb (exec_ok (C := C) (L := L) (n := fn.ntmps) hE hm c 0 hL hInv (by simp [startW]; omega) he fun e st' a' w' fps' hl' h' hk => ?_)
  have main : (match fin E os fn.results.toList st', ownerAt st'.at s0 with
      | some l, some ⟨t', φ, y⟩ => match castTo t y, weaker t (markFl 0 t) φ with
        | some z, true => some (l, merge t x z)
        | _, _ => none
      | _, _ => none) = some (l, y) → bodyPost P fn (fun e w2 => ∃ v, e = .returned v ∧ ∃ fp', FrameW w w2 fp ∧ fp'.Nodup ∧ (∀ b, b ∈ fp' → b < w2.heap.size ∧ (b ∈ fp ∨ w.heap.size ≤ b)) ∧
      Rep tg0 w2 (fun _ => False) t (fullFl t) y cs fp' ∧ ResRep tg0 w2 (fun _ => False) (mkRes os l) v []) .normal a' w' := by
    intro hfin
    split at hfin
    case h_2 => cases hfin
    rename_i l' t' φ y' hl1 h0
    split at hfin
    case h_2 => cases hfin
    rename_i z hz hw
    simp at hfin
    obtain ⟨rfl, rfl⟩ := hfin
    obtain ⟨st2, fps2, fx, vs, k1, _, k3, k4⟩ := finish_ok hE h' (fin_finish hl1)
    obtain ⟨fpc, hr0, hkind⟩ := owner_rep (h'.rep s0) h0
    simp only at hr0
    have hin : ∀ b, b ∈ fpc → b ∈ fps' s0 := fun b hb => by
      rcases hkind with ⟨_, e, _⟩ | ⟨_, _, _, _, e, _⟩ <;> rw [e] <;> simp [hb]
    have hndc : fpc.Nodup := by
      have := h'.nodup s0
      rcases hkind with ⟨_, e, _⟩ | ⟨_, _, _, _, e, _⟩ <;> rw [e] at this
      · exact this
      · exact (List.nodup_cons.1 this).2
    have hr1 := hr0.cast hz
    obtain ⟨f1, s1, hweak⟩ := hr1.weak hw
    have hr2 := hweak hndc
    have hr3 : Rep tg w' (fun _ => False) t (markFl 0 t) (merge t x z) cs f1 := merge_rep hr2 htg hrep hplain
    have hr4 : Rep tg0 w' (fun _ => False) t (fullFl t) (merge t x z) cs f1 := hr3.toFull (full_mark hplain)
    have hfr := h'.frame
    refine ⟨h'.defers, if h : vs.toArray.size = 1 then vs.toArray[0] else .tuple vs.toArray, ?_, _, rfl, f1, ⟨hfr.os, hfr.tape, hfr.output, hfr.size, fun k hk hx => hfr.block k hk hx⟩, s1.nodup hndc, fun b hb => ?_, hr4, ?_⟩
    · unfold results
      rw [Array.mapM_eq_mapM_toList]
      have hF : ∀ F : ResultVar → Sem Value, (∀ x, F x = resVal a'.tmps x) → (fn.results.toList.mapM F).run P w' = .ok vs w' := by
        intro F hF
        rw [funext hF]
        exact k3
      simp only [Sem.run_bind, Sem.run_map]
      rw [hF]
      · rfl
      · intro x; cases x <;> rfl
    · have := h'.own s0 b (hin b (s1.subset hb))
      exact ⟨this.1, this.2.symm⟩
    · have hfl := mkRes_flat (y := l') hflat
      have k5 : RepTup tg0 w' (fun _ => False) (mkRes os l') vs [] := ((k4.flat hfl).retag hfl)
      match hres : mkRes os l', k5 with
      | [r], ⟨cs2, vs', g1, g2, e1, e2, hr, e3, e4⟩ =>
        subst e1 e3 e4
        have e5 : g1 = [] := by cases g1 <;> simp at e2; rfl
        subst e5
        exact ⟨cs2, by simp, hr⟩
      | [], hr =>
        have : vs = [] := hr.1
        subst this
        exact ⟨[], by simp, hr⟩
      | r :: r' :: l2, hr =>
        refine ⟨vs, ?_, hr⟩
        obtain ⟨cs2, vs', g1, g2, e1, e2, hr1, cs3, vs2, g3, g4, e3, _⟩ := hr
        subst e1 e3
        simp
  cases e with
  | normal => exact main hk
  | exit id => cases hk
  | ret => exact main hk
end

/-- A contract of a function that writes into its first argument. -/
structure EntryW where
  f : Nat
  t : Ty
  ins : List Ty
  outs : List (Ty × Fl)
  fn : El t → Elts ins → Option (Outs outs × El t)
def Env.extW (E : Env) (e : EntryW) : Env :=
  { τ := E.τ, by_ := E.by_, Γ := E.Γ, wk := E.wk, Φ := E.Φ
    W := fun f => match Nat.beq f e.f with
      | true => true
      | false => E.W f
    ΓW := fun f t x args {β} K => match Nat.beq f e.f with
      | true => match castTo e.t x, decArgs e.ins args with
        | some x', some a => obind (e.fn x' a) fun r => match castTo t r.2 with
          | some y => K (mkRes e.outs r.1) y
          | none => none
        | _, _ => E.ΓW f t x args K
      | false => E.ΓW f t x args K }

section
variable {G : GP} {P : Program} {E : Env}
theorem EnvOk.extW (hE : EnvOk G P E) {e : EntryW} (h : ∀ x a r y, e.fn x a = some (r, y) → ContractW G P e.f e.t x (mkArgs e.ins a) (mkRes e.outs r) y) : EnvOk G P (E.extW e) where
  ty := hE.ty
  by_ := hE.by_
  nat := hE.nat
  natΦ := hE.natΦ
  Φ := hE.Φ
  Γ := hE.Γ
  natW f t x args β K := by
    simp only [Env.extW]
    cases Nat.beq f e.f with
    | false => exact hE.natW f t x args K
    | true =>
      simp only
      split
      · rename_i x' a _ _
        simp only [obind_eq, Option.bind_assoc]
        congr 1
        funext r
        split <;> rfl
      · exact hE.natW f t x args K
  ΓW f t x args res y hr := by
    simp only [Env.extW] at hr
    cases hb : Nat.beq f e.f with
    | false => rw [hb] at hr; exact hE.ΓW f t x args res y hr
    | true =>
      rw [hb] at hr
      have := nbeq_true hb
      subst this
      simp only at hr
      split at hr
      · rename_i x' a hx ha
        cases hfn : e.fn x' a with
        | none => rw [hfn] at hr; cases hr
        | some q =>
          rw [hfn] at hr
          simp only [obind] at hr
          split at hr
          case h_2 => cases hr
          rename_i y' hy
          simp at hr
          obtain ⟨rfl, rfl⟩ := hr
          rw [decArgs_eq ha]
          obtain ⟨et, rfl⟩ := castTo_some hx
          subst et
          have := castTo_self hy
          subst this
          exact h _ _ _ _ hfn
      · exact hE.ΓW _ t x args res y hr

theorem EnvOk.nextW (hE : EnvOk G P E) (hm : P.follows .mixedOrders = true) {e : EntryW} {fn : Func} (hf : P.funcs[e.f]? = some fn) (hname : ((fn.name == "runtime.NumGoroutine") || !fn.body.isSome) = false) {F : Nat} {ls : List (Nat × LoopFn)} {ks : List Nat}
    (hk : loopKeys fn = ks) (hn : ks.Nodup) (hL : LoopsOk E (mkL F ls) fn.ntmps (ks.map fun i => (i, loopAt fn i)) ls) {s0 : Nat} (heq : ∀ x a, evFW E (mkL F ls) fn e.outs s0 e.t x (mkArgs e.ins a) = e.fn x a) : EnvOk G P (E.extW e) := by
  simp only [Bool.or_eq_false_iff, Bool.not_eq_false'] at hname
  obtain ⟨c, hb⟩ := Option.isSome_iff_exists.1 hname.2
  have hc : fbody fn = c := by simp [fbody, hb]
  have hks : (loopsIn 0 c).map (·.1) = ks := by rw [← hk, loopKeys, hc]
  have hl : loopsIn 0 c = ks.map fun i => (i, loopAt fn i) := by
    have := loops_eq (l := loopsIn 0 c) (hks ▸ hn)
    rw [hks] at this
    simp only [loopAt, hc]
    exact this
  refine hE.extW fun x a r y hx => contract_ofW hE hm hf hname.1 hb (L := mkL F ls) (fun p hp s hs => ?_) ((heq x a).trans hx)
  obtain ⟨q, h1, h2, rfl⟩ := mkL_find hs
  obtain ⟨h3, h4, h6⟩ := hL.get p (hl ▸ hp) q h1 h2
  exact ⟨h3, q.2.out, h4, fun x K r hr => ⟨F, (step_run h6 (fun e y => K e (encode (q.2.out e) y)) F x).trans hr⟩⟩
end
end Go.Ev
/-
  Plain laws: rounds of loops as functions of lists; sizes, copies and comparisons of contents.
-/
namespace Go.Ev

section
variable {σ ρ α β : Type}

/-- A loop, by its rounds' measure. -/
theorem runP_of {step : (σ → ρ) → σ → ρ} {bot : ρ} (I : σ → Prop) (m : σ → Nat) (res : σ → ρ) (h : ∀ rec x, I x → (∀ y, I y → m y < m x → rec y = res y) → step rec x = res x) : ∀ (k : Nat) (x : σ), I x → m x < k → runP step bot k x = res x
  | 0, x, _, hk => by omega
  | k + 1, x, hx, hk => h _ x hx fun y hy hm => runP_of I m res h k y hy (by omega)

/-- Rounds that count. -/
def forR (g : Nat → α → α ⊕ ρ) (fin : α → ρ) : Nat → Nat → α → ρ
  | 0, _, a => fin a
  | c + 1, i, a => match g i a with
    | .inl a' => forR g fin c (i + 1) a'
    | .inr r => r
theorem for_fold {step : (σ → ρ) → σ → ρ} {bot : ρ} (mk : Nat → α → σ) (n : Nat) (g : Nat → α → α ⊕ ρ) (fin : α → ρ) (hend : ∀ rec a, step rec (mk n a) = fin a)
    (hstep : ∀ rec i a, i < n → step rec (mk i a) = match g i a with | .inl a' => rec (mk (i + 1) a') | .inr r => r) : ∀ (c i : Nat) (a : α) (k : Nat), i + c = n → c < k → runP step bot k (mk i a) = forR g fin c i a
  | 0, i, a, k + 1, h, hk => by
    obtain rfl : i = n := by omega
    exact hend _ a
  | c + 1, i, a, k + 1, h, hk => by
    show step _ _ = _
    rw [hstep _ i a (by omega), forR]
    cases g i a with
    | inl a' => exact for_fold mk n g fin hend hstep c (i + 1) a' k (by omega) (by omega)
    | inr r => rfl
  | _, _, _, 0, _, hk => by omega

/-- Rounds that look at each place, and end early at the first that is not as it should be. -/
def okFrom (ok : Nat → Bool) : Nat → Nat → Bool
  | 0, _ => true
  | c + 1, i => ok i && okFrom ok c (i + 1)
theorem for_all {step : (σ → ρ) → σ → ρ} {bot : ρ} (mk : Nat → σ) (n : Nat) (ok : Nat → Bool) (r1 r2 : ρ) (hend : ∀ rec, step rec (mk n) = r2) (hstep : ∀ rec i, i < n → step rec (mk i) = cond (ok i) (rec (mk (i + 1))) r1) :
    ∀ (c i : Nat) (k : Nat), i + c = n → c < k → runP step bot k (mk i) = cond (okFrom ok c i) r2 r1
  | 0, i, k + 1, h, hk => by
    obtain rfl : i = n := by omega
    exact hend _
  | c + 1, i, k + 1, h, hk => by
    show step _ _ = _
    rw [hstep _ i (by omega), okFrom]
    cases ok i with
    | true => exact for_all mk n ok r1 r2 hend hstep c (i + 1) k (by omega) (by omega)
    | false => rfl
  | _, _, 0, _, hk => by omega

theorem okFrom_iff {ok : Nat → Bool} : ∀ (c i : Nat), okFrom ok c i = true ↔ ∀ j, i ≤ j → j < i + c → ok j = true
  | 0, i => by simp only [okFrom, true_iff]; intro j h1 h2; omega
  | c + 1, i => by
    simp only [okFrom, Bool.and_eq_true, okFrom_iff c (i + 1)]
    refine ⟨fun ⟨h1, h2⟩ j hj hj' => ?_, fun h => ⟨h i (by omega) (by omega), fun j hj hj' => h j (by omega) (by omega)⟩⟩
    by_cases e : j = i
    · exact e ▸ h1
    · exact h2 j (by omega) (by omega)
theorem okFrom_congr {ok ok' : Nat → Bool} : ∀ (c i : Nat), (∀ j, i ≤ j → j < i + c → ok j = ok' j) → okFrom ok c i = okFrom ok' c i
  | 0, i, _ => rfl
  | c + 1, i, h => by rw [okFrom, okFrom, h i (by omega) (by omega), okFrom_congr c (i + 1) fun j h1 h2 => h j (by omega) (by omega)]

theorem rdAt_nat {xs : List α} (i : Nat) : rdAt xs (i : Int) = xs[i]? := by simp [rdAt]
theorem rdAt_lt {xs : List α} {i : Nat} (h : i < xs.length) : rdAt xs (i : Int) = some xs[i] := by rw [rdAt_nat, List.getElem?_eq_getElem h]
theorem btAt_lt {s : ByteArray} {i : Nat} (h : i < s.data.toList.length) : btAt s (i : Int) = some ((s.data.toList[i]'h).toNat : Int) := by
  simp [btAt, List.getElem?_eq_getElem h]

theorem wrap_id {x : Int} (h1 : -9223372036854775808 ≤ x) (h2 : x < 9223372036854775808) : IntKind.i64.wrap x = x := by
  rw [IntKind.wrap_i64]; omega
theorem wrap_succ {i : Nat} (h : i < 9223372036854775807) : IntKind.i64.wrap ((i : Int) + (1 : Int)) = ((i + 1 : Nat) : Int) := by
  rw [wrap_id (by omega) (by omega)]; simp
theorem lt_true {i n : Nat} (h : i < n) : decide ((i : Int) < (n : Int)) = true := decide_eq_true (by omega)
theorem lt_false {n : Nat} : decide ((n : Int) < (n : Int)) = false := decide_eq_false (by omega)
end

/-- How much a content holds: lengths of slices and strings, in all. -/
def wt : (t : Ty) → El t → Nat
  | .str, s => s.size
  | .sl e, xs => xs.length + (xs.map (wt e)).sum
  | .prod a b, x => wt a x.1 + wt b x.2
  | _, _ => 0

theorem wt_flat {α : Type} {xs : List α} {f : α → Nat} (h : ∀ x, f x = 0) : (xs.map f).sum = 0 := by
  induction xs with
  | nil => rfl
  | cons x l ih => simp [h, ih]
theorem le_sum {α : Type} {xs : List α} {f : α → Nat} {x : α} (h : x ∈ xs) : f x ≤ (xs.map f).sum := by
  induction xs with
  | nil => cases h
  | cons y l ih =>
    simp only [List.map_cons, List.sum_cons]
    rcases List.mem_cons.1 h with rfl | h
    · omega
    · have := ih h; omega

section
variable {α β : Type}

/-- The sizes of a slice's elements. -/
theorem szS {f : α → Int → Option (Int × Unit)} {wf : α → Nat} {xs : List α} {M : Int} (hM : M < 9223372036854775807) (hf : ∀ a, a ∈ xs → ∀ l, 0 ≤ l → l ≤ M → f a l = some (if (wf a : Int) ≤ l then l - wf a else -1, ())) {K1 K2 : Int × Unit → Option β}
    {step : (List α × Int × Int × Unit → Option β) → List α × Int × Int × Unit → Option β}
    (hs : ∀ rec x, step rec x = cond (decide (x.2.2.1 < (x.1.length : Int))) (obind (rdAt x.1 x.2.2.1) fun v1 => obind (f v1 x.2.1) fun r2 => cond (decide (r2.1 < (0 : Int))) (K1 ((-1 : Int), ())) (rec (x.1, r2.1, IntKind.i64.wrap (x.2.2.1 + (1 : Int)), ()))) (K2 (x.2.1, ())))
    (hl : xs.length < 9223372036854775807) : ∀ (c i : Nat) (l : Int) (k : Nat), i + c = xs.length → c < k → 0 ≤ l → l ≤ M →
    runP step none k (xs, l, (i : Int), ()) = if (((xs.drop i).map wf).sum : Int) ≤ l then K2 (l - ((xs.drop i).map wf).sum, ()) else K1 (-1, ())
  | 0, i, l, k + 1, h, hk, h0, h1 => by
    obtain rfl : i = xs.length := by omega
    show step _ _ = _
    rw [hs]
    simp only [lt_false, cond_false, List.drop_length, List.map_nil, List.sum_nil]
    rw [if_pos (by simpa using h0)]
    simp
  | c + 1, i, l, k + 1, h, hk, h0, h1 => by
    have hi : i < xs.length := by omega
    show step _ _ = _
    rw [hs]
    simp only [lt_true hi, cond_true, rdAt_lt hi, obind, hf xs[i] (List.getElem_mem hi) l h0 h1]
    have hd : xs.drop i = xs[i] :: xs.drop (i + 1) := List.drop_eq_getElem_cons hi
    rw [hd]
    simp only [List.map_cons, List.sum_cons]
    by_cases hw : (wf xs[i] : Int) ≤ l
    · have e : decide ((if (wf xs[i] : Int) ≤ l then l - wf xs[i] else -1) < (0 : Int)) = false := by rw [if_pos hw]; exact decide_eq_false (by omega)
      rw [e, cond_false, if_pos hw, wrap_succ (by omega), szS hM hf hs hl c (i + 1) (l - wf xs[i]) k (by omega) (by omega) (by omega) (by omega)]
      by_cases hh : ((((xs.drop (i + 1)).map wf).sum : Nat) : Int) ≤ l - wf xs[i]
      · rw [if_pos hh, if_pos (by omega)]
        congr 2
        omega
      · rw [if_neg hh, if_neg (by omega)]
    · have e : decide ((if (wf xs[i] : Int) ≤ l then l - wf xs[i] else -1) < (0 : Int)) = true := by rw [if_neg hw]; rfl
      rw [e, cond_true, if_neg (by omega)]
  | _, _, _, 0, _, hk, _, _ => by omega

theorem sub_wrap {l : Int} {n : Nat} (h0 : 0 ≤ l) (h1 : l ≤ 1048576) (hn : n ≤ maxLen) : IntKind.i64.wrap (l - (n : Int)) = l - n := by
  have : (n : Int) ≤ 9223372036854775807 := by unfold maxLen at hn; omega
  exact wrap_id (by omega) (by omega)

theorem szS_top {f : α → Int → Option (Int × Unit)} {wf : α → Nat} {xs : List α} (hf : ∀ a, a ∈ xs → ∀ l, 0 ≤ l → l ≤ 1048576 → f a l = some (if (wf a : Int) ≤ l then l - wf a else -1, ()))
    {step : (List α × Int × Int × Unit → Option (Int × Unit)) → List α × Int × Int × Unit → Option (Int × Unit)}
    (hs : ∀ rec x, step rec x = cond (decide (x.2.2.1 < (x.1.length : Int))) (obind (rdAt x.1 x.2.2.1) fun v1 => obind (f v1 x.2.1) fun r2 => cond (decide (r2.1 < (0 : Int))) (some ((-1 : Int), ())) (rec (x.1, r2.1, IntKind.i64.wrap (x.2.2.1 + (1 : Int)), ()))) (some (x.2.1, ())))
    {l : Int} {F : Nat} (hF : 2000000 ≤ F) (hl : xs.length ≤ maxLen) (h0 : 0 ≤ l) (h1 : l ≤ 1048576) :
    cond (decide (IntKind.i64.wrap (l - (xs.length : Int)) < (0 : Int))) (some ((-1 : Int), ())) (runP step none F (xs, IntKind.i64.wrap (l - (xs.length : Int)), (0 : Int), ())) = some (if ((xs.length + (xs.map wf).sum : Nat) : Int) ≤ l then l - ((xs.length + (xs.map wf).sum : Nat) : Int) else -1, ()) := by
  rw [sub_wrap h0 h1 hl]
  by_cases hn : (xs.length : Int) ≤ l
  · rw [show decide (l - (xs.length : Int) < 0) = false from decide_eq_false (by omega), cond_false]
    refine (szS (K1 := fun y => some (y.1, ())) (K2 := fun y => some (y.1, ())) (wf := wf) (M := 1048576) (by omega) hf hs (by omega) xs.length 0 (l - xs.length) F (by omega) (by omega) (by omega) (by omega)).trans ?_
    simp only [List.drop_zero]
    by_cases hh : (((xs.map wf).sum : Nat) : Int) ≤ l - xs.length
    · rw [if_pos hh, if_pos (by omega)]
      congr 2
      omega
    · rw [if_neg hh, if_neg (by omega)]
  · rw [show decide (l - (xs.length : Int) < 0) = true from decide_eq_true (by omega), cond_true, if_neg (by omega)]

theorem szF_top {xs : List α} {wf : α → Nat} (hw : ∀ a, wf a = 0) {l : Int} (hl : xs.length ≤ maxLen) (h0 : 0 ≤ l) (h1 : l ≤ 1048576) :
    cond (decide (IntKind.i64.wrap (l - (xs.length : Int)) < (0 : Int))) (some ((-1 : Int), ())) (some (IntKind.i64.wrap (l - (xs.length : Int)), ())) = some (if ((xs.length + (xs.map wf).sum : Nat) : Int) ≤ l then l - ((xs.length + (xs.map wf).sum : Nat) : Int) else -1, ()) := by
  rw [sub_wrap h0 h1 hl, wt_flat hw]
  by_cases hn : (xs.length : Int) ≤ l
  · rw [show decide (l - (xs.length : Int) < 0) = false from decide_eq_false (by omega), cond_false, if_pos (by omega)]
    rfl
  · rw [show decide (l - (xs.length : Int) < 0) = true from decide_eq_true (by omega), cond_true, if_neg (by omega)]

theorem sz_call {f : Option (Int × Unit)} {w r : Nat} {l : Int} {k : Int × Unit → Option (Int × Unit)} (hf : f = some (if (w : Int) ≤ l then l - w else -1, ())) (h0 : 0 ≤ l)
    (hk : (w : Int) ≤ l → k (l - w, ()) = some (if (r : Int) ≤ l - w then l - w - r else -1, ())) :
    obind f (fun x => cond (decide (x.1 < (0 : Int))) (some ((-1 : Int), ())) (k x)) = some (if ((w + r : Nat) : Int) ≤ l then l - ((w + r : Nat) : Int) else -1, ()) := by
  rw [hf]
  simp only [obind]
  by_cases hw : (w : Int) ≤ l
  · rw [if_pos hw, show decide (l - (w : Int) < 0) = false from decide_eq_false (by omega), cond_false, hk hw]
    by_cases hr : (r : Int) ≤ l - w
    · rw [if_pos hr, if_pos (by omega)]; congr 2; omega
    · rw [if_neg hr, if_neg (by omega)]
  · rw [if_neg hw, show decide ((-1 : Int) < 0) = true from rfl, cond_true, if_neg (by omega)]
theorem sz_str {s : ByteArray} {r : Nat} {l : Int} {k : Int → Option (Int × Unit)} (hs : s.size ≤ maxLen) (h0 : 0 ≤ l) (h1 : l ≤ 1048576)
    (hk : (s.size : Int) ≤ l → k (l - s.size) = some (if (r : Int) ≤ l - s.size then l - s.size - r else -1, ())) :
    cond (decide (IntKind.i64.wrap (l - (s.size : Int)) < (0 : Int))) (some ((-1 : Int), ())) (k (IntKind.i64.wrap (l - (s.size : Int)))) = some (if ((s.size + r : Nat) : Int) ≤ l then l - ((s.size + r : Nat) : Int) else -1, ()) := by
  rw [sub_wrap h0 h1 hs]
  by_cases hw : (s.size : Int) ≤ l
  · rw [show decide (l - (s.size : Int) < 0) = false from decide_eq_false (by omega), cond_false, hk hw]
    by_cases hr : (r : Int) ≤ l - s.size
    · rw [if_pos hr, if_pos (by omega)]; congr 2; omega
    · rw [if_neg hr, if_neg (by omega)]
  · rw [show decide (l - (s.size : Int) < 0) = true from decide_eq_true (by omega), cond_true, if_neg (by omega)]
theorem sz_end {l : Int} (h0 : 0 ≤ l) : some (l, ()) = some (if ((0 : Nat) : Int) ≤ l then l - ((0 : Nat) : Int) else -1, ()) := by
  rw [if_pos (by simpa using h0)]; simp

theorem take_set_drop {xs out : List α} {i : Nat} (hi : i < xs.length) (hlen : out.length = xs.length) (h : out.take i = xs.take i) : (out.set i xs[i]).take (i + 1) = xs.take (i + 1) := by
  rw [List.take_add_one, List.take_add_one, List.take_set_of_le (Nat.le_refl _), h]
  simp [List.getElem?_eq_getElem hi, hlen, hi]

/-- A slice copied element by element. -/
theorem toS {f : α → Option (α × Unit)} {xs : List α} (hf : ∀ a, a ∈ xs → f a = some (a, ())) {K1 : List α × Unit → Option β}
    {step : (List α × List α × Int × Unit → Option β) → List α × List α × Int × Unit → Option β}
    (hs : ∀ rec x, step rec x = cond (decide (x.2.2.1 < (x.1.length : Int))) (obind (rdAt x.1 x.2.2.1) fun v1 => obind (f v1) fun r2 => obind (rdAt x.2.1 x.2.2.1) fun v3 => rec (x.1, x.2.1.set x.2.2.1.toNat r2.1, IntKind.i64.wrap (x.2.2.1 + (1 : Int)), ())) (K1 (x.2.1, ())))
    (hl : xs.length < 9223372036854775807) : ∀ (c i : Nat) (out : List α) (k : Nat), i + c = xs.length → c < k → out.length = xs.length → out.take i = xs.take i → runP step none k (xs, out, (i : Int), ()) = K1 (xs, ())
  | 0, i, out, k + 1, h, hk, h0, h1 => by
    obtain rfl : i = xs.length := by omega
    show step _ _ = _
    rw [hs]
    simp only [lt_false, cond_false]
    rw [← h0, List.take_length, h0, List.take_length] at h1
    rw [h1]
  | c + 1, i, out, k + 1, h, hk, h0, h1 => by
    have hi : i < xs.length := by omega
    show step _ _ = _
    rw [hs]
    simp only [lt_true hi, cond_true, rdAt_lt hi, rdAt_lt (xs := out) (i := i) (by omega), obind, hf xs[i] (List.getElem_mem hi), Int.toNat_natCast]
    rw [wrap_succ (by omega), toS hf hs hl c (i + 1) _ k (by omega) (by omega) (by simpa using h0) (take_set_drop hi h0 h1)]
  | _, _, _, 0, _, hk, _, _ => by omega
/-- A slice of plain elements copied. -/
theorem toF {xs : List α} {K1 : List α × Unit → Option β}
    {step : (List α × List α × Int × Unit → Option β) → List α × List α × Int × Unit → Option β}
    (hs : ∀ rec x, step rec x = cond (decide (x.2.2.1 < (x.1.length : Int))) (obind (rdAt x.1 x.2.2.1) fun v1 => obind (rdAt x.2.1 x.2.2.1) fun v2 => rec (x.1, x.2.1.set x.2.2.1.toNat v1, IntKind.i64.wrap (x.2.2.1 + (1 : Int)), ())) (K1 (x.2.1, ())))
    (hl : xs.length < 9223372036854775807) : ∀ (c i : Nat) (out : List α) (k : Nat), i + c = xs.length → c < k → out.length = xs.length → out.take i = xs.take i → runP step none k (xs, out, (i : Int), ()) = K1 (xs, ()) :=
  toS (f := fun a => some (a, ())) (fun _ _ => rfl) hs hl

/-- A slice held against itself. -/
theorem eqS {f : α → α → Option (Bool × Unit)} {xs : List α} (hf : ∀ a, a ∈ xs → f a a = some (true, ())) {K1 : Bool × Unit → Option β} {K2 : Unit → Option β}
    {step : (List α × List α × Int × Unit → Option β) → List α × List α × Int × Unit → Option β}
    (hs : ∀ rec x, step rec x = cond (decide (x.2.2.1 < (x.1.length : Int))) (obind (rdAt x.1 x.2.2.1) fun v1 => obind (rdAt x.2.1 x.2.2.1) fun v2 => obind (f v1 v2) fun r3 => cond (!r3.1) (K1 (false, ())) (rec (x.1, x.2.1, IntKind.i64.wrap (x.2.2.1 + (1 : Int)), ()))) (K2 ()))
    (hl : xs.length < 9223372036854775807) : ∀ (c i : Nat) (k : Nat), i + c = xs.length → c < k → runP step none k (xs, xs, (i : Int), ()) = K2 ()
  | 0, i, k + 1, h, hk => by
    obtain rfl : i = xs.length := by omega
    show step _ _ = _
    rw [hs]
    simp only [lt_false, cond_false]
  | c + 1, i, k + 1, h, hk => by
    have hi : i < xs.length := by omega
    show step _ _ = _
    rw [hs]
    simp only [lt_true hi, cond_true, rdAt_lt hi, obind, hf xs[i] (List.getElem_mem hi), Bool.not_true, cond_false]
    rw [wrap_succ (by omega), eqS hf hs hl c (i + 1) k (by omega) (by omega)]
  | _, _, 0, _, hk => by omega
end
/-- A slice of plain elements held against itself. -/
theorem eqF {α β : Type} {bad : α → α → Bool} {xs : List α} (hf : ∀ a, bad a a = false) {K1 : Bool × Unit → Option β} {K2 : Unit → Option β}
    {step : (List α × List α × Int × Unit → Option β) → List α × List α × Int × Unit → Option β}
    (hs : ∀ rec x, step rec x = cond (decide (x.2.2.1 < (x.1.length : Int))) (obind (rdAt x.1 x.2.2.1) fun v1 => obind (rdAt x.2.1 x.2.2.1) fun v2 => cond (bad v1 v2) (K1 (false, ())) (rec (x.1, x.2.1, IntKind.i64.wrap (x.2.2.1 + (1 : Int)), ()))) (K2 ()))
    (hl : xs.length < 9223372036854775807) : ∀ (c i : Nat) (k : Nat), i + c = xs.length → c < k → runP step none k (xs, xs, (i : Int), ()) = K2 ()
  | 0, i, k + 1, h, hk => by
    obtain rfl : i = xs.length := by omega
    show step _ _ = _
    rw [hs]
    simp only [lt_false, cond_false]
  | c + 1, i, k + 1, h, hk => by
    have hi : i < xs.length := by omega
    show step _ _ = _
    rw [hs]
    simp only [lt_true hi, cond_true, rdAt_lt hi, obind, hf, cond_false]
    rw [wrap_succ (by omega), eqF hf hs hl c (i + 1) k (by omega) (by omega)]
  | _, _, 0, _, hk => by omega
theorem gd {β : Type} {b : Bool} {K : Option β} (h : b = true) : guardB b K = K := by rw [h]; rfl
theorem beq_bytes (s : ByteArray) : (s.toList == s.toList) = true := by simp
end Go.Ev
/-
  What start-up laid; contracts of functions of the library, out of what is proved of them.
-/
namespace Go.Ev

/-- Variables that hold what is listed. -/
def gpVars (P : Program) (g0 : Nat) (l : List (String × Array Value)) (hl : (l.all fun x => match P.globalNamed x.1 with | some g => Nat.blt g g0 | none => false) = true) : GP where
  g0 := g0
  G w := g0 ≤ w.heap.size ∧ ∀ x, x ∈ l → w.var? P x.1 = some x.2
  size w h := h.1
  keep w w' h hs hk := ⟨Nat.le_trans h.1 hs, fun x hx => by
    have h1 := h.2 x hx
    have h2 := List.all_eq_true.1 hl x hx
    unfold World.var? at h1 ⊢
    cases hg : P.globalNamed x.1 with
    | none => rw [hg] at h2; cases h2
    | some g =>
      rw [hg] at h1 h2
      simp only [Option.bind_some] at h1 ⊢
      rw [hk g (Nat.le_of_ble_eq_true h2)]
      exact h1⟩

/-- A table of whole numbers, wherever it stands on the list of what start-up laid. -/
theorem tabIs_of_mem {P : Program} {W : World} {name : String} {k : IntKind} {zs : List Int} {g : Nat} {t e : TypeId} {n : Nat}
    (hg : P.globalNamed name = some g) (hty : (P.globals[g]?).map (·.type) = some t) (ht : P.underlying t = some (.array n e)) (he : P.underlying e = some (.int k)) (hce : P.cellsOf e = 1) (hct : P.cellsOf t = n) :
    ∀ {l : List (String × DataW Unit)} {ps : List MemPlace}, DataW.LaidVars P W l ps → (name, Lib.tabData k zs) ∈ l → Lib.TabIs P W name k zs
  | [], _, _, h => by simp at h
  | x :: l, ps, ⟨g', t', cs, fuel, p, q, hg', ht', hvar, hd, hrest, _⟩, h => by
    rcases List.mem_cons.1 h with rfl | h
    · obtain rfl := Option.some.inj (hg.symm.trans hg')
      obtain rfl := Option.some.inj (hty.symm.trans ht')
      unfold Lib.TabIs
      rw [hvar, ← Lib.cells_of_tab ht he hce hct hd]
    · exact tabIs_of_mem hg hty ht he hce hct hrest h
theorem var_lt {P : Program} {W : World} {name : String} {g : Nat} {x : Array Value} (hg : P.globalNamed name = some g) (h : W.var? P name = some x) : g < W.heap.size := by
  unfold World.var? at h
  rw [hg] at h
  simp only [Option.bind_some] at h
  rcases Nat.lt_or_ge g W.heap.size with hlt | hge
  · exact hlt
  · rw [Array.getElem?_eq_none hge] at h
    simp at h

theorem below_grow (w : World) (k : Nat) (os : Array Obj) : RowKit.Below w.heap.size w (Sort.grow (w.drewN k) os) :=
  ⟨rfl, rfl, rfl, by simp [Sort.grow, World.drewN], fun j hj => by
    rw [Sort.heap_grow_old _ _ (by simpa [World.drewN] using hj)]; rfl⟩

section
variable {G : GP} {P : Program}
/-- A contract out of what is proved of the call: nothing that was there turns, the results hold nothing of memory. -/
theorem contract_lib {f : Nat} {fn : Func} {args : List Ct} {res : List Res} (hf : P.funcs[f]? = some fn) (hname : ((fn.name == "runtime.NumGoroutine") || !fn.body.isSome) = false) (hflat : (res.all fun r => r.t.flat) = true)
    (h : ∀ (tg : Nat → Value) (w : World) (Bp : Nat → Prop) (vals : List Value), G.G w → (∀ b, Bp b → b < w.heap.size) → ArgsRep tg w Bp args vals →
      Calls P f vals.toArray w fun e w' => ∃ v, e = .returned v ∧ RowKit.Below w.heap.size w w' ∧ ResRep tg w' Bp res v []) : Contract G P f args res := by
  intro tg w Bp vals hG hBp ha
  have h1 := h tg w Bp vals hG hBp ha
  simp only [Bool.or_eq_false_iff, Bool.not_eq_false'] at hname
  obtain ⟨c, hb⟩ := Option.isSome_iff_exists.1 hname.2
  have hrun : (callFunc f vals.toArray).run P w = .ok (.enter f vals.toArray) w := by
    have hn : ¬ fn.name = "runtime.NumGoroutine" := by simpa using hname.1
    simp [callFunc, hf, hn, hb]
  unfold CallsV
  rw [hrun]
  refine h1.mono ?_
  rintro e w' ⟨v, rfl, hbel, hr⟩
  exact ⟨v, rfl, [], hbel, by simp, by simp, hr.flat hflat⟩

/-- strconv.FormatInt at base 10. -/
def libFormatInt (n b : Int) : Option (ByteArray × Unit) := guardB ((b == 10) && (decide (-9223372036854775808 ≤ n) && decide (n ≤ 9223372036854775807))) (some (⟨(Lib.itoa n).toArray⟩, ()))
theorem libFormatInt_con {f : Nat} {fn : Func} (hf : P.funcs[f]? = some fn) (hname : ((fn.name == "runtime.NumGoroutine") || !fn.body.isSome) = false)
    (h : ∀ (n : Int), -9223372036854775808 ≤ n → n ≤ 9223372036854775807 → ∀ w : World, G.G w → Calls P f #[.int .i64 n, .int .i64 10] w fun e w' => e = .returned (.string ⟨(Lib.itoa n).toArray⟩) ∧ ∃ k os, w' = Sort.grow (w.drewN k) os) :
    ∀ (x : Elts [.int .i64, .int .i64]) (r : Outs [(.str, .no)]), libFormatInt x.1 x.2.1 = some r → Contract G P f (mkArgs [.int .i64, .int .i64] x) (mkRes [(.str, .no)] r) := by
  rintro ⟨n, b, ⟨⟩⟩ r hr
  unfold libFormatInt at hr
  obtain ⟨hg, hr⟩ := guardB_some hr
  simp only [Option.some.injEq] at hr
  subst hr
  simp only [Bool.and_eq_true, decide_eq_true_eq, beq_iff_eq] at hg
  obtain ⟨rfl, h0, h1⟩ := hg
  refine contract_lib hf hname rfl fun tg w Bp vals hG hBp ha => ?_
  obtain ⟨cs, vs, rfl, hr1, cs2, vs2, rfl, hr2, rfl⟩ := ha
  obtain ⟨rfl, _⟩ := hr1
  obtain ⟨rfl, _⟩ := hr2
  refine (h n h0 h1 w hG).mono ?_
  rintro e w' ⟨rfl, k, os, rfl⟩
  exact ⟨_, rfl, below_grow w k os, [.string ⟨(Lib.itoa n).toArray⟩], rfl, rfl, rfl⟩
end
end Go.Ev
/-
  Contracts of functions of package strings, out of what is proved of them; numbers that lie in package variables.
-/
namespace Go.Ev

def isI64 (v : Value) : Prop := ∃ m, v = .int .i64 m
def isErr (v : Value) : Prop := v = .nilIface ∨ ∃ te pe, v = .iface te pe
/-- Variables that hold what is listed, and cells of which something is known. -/
def gpCells (P : Program) (g0 : Nat) (l : List (String × Array Value)) (c : List (Nat × (Value → Prop)))
    (hl : (l.all fun x => match P.globalNamed x.1 with | some g => Nat.blt g g0 | none => false) = true) (hc : (c.all fun x => Nat.blt x.1 g0) = true) : GP where
  g0 := g0
  G w := (g0 ≤ w.heap.size ∧ ∀ x, x ∈ l → w.var? P x.1 = some x.2) ∧ ∀ x, x ∈ c → ∃ v, w.cell? ⟨x.1, 0, none⟩ = some v ∧ x.2 v
  size w h := h.1.1
  keep w w' h hs hk := ⟨(gpVars P g0 l hl).keep w w' h.1 hs hk, fun x hx => by
    obtain ⟨v, h1, h2⟩ := h.2 x hx
    exact ⟨v, (World.cell?_of_block (w := w) (hk x.1 (Nat.le_of_ble_eq_true (List.all_eq_true.1 hc x hx)))).trans h1, h2⟩⟩

section
variable {G : GP} {P : Program}
/-- A contract out of what is proved of the call. -/
theorem contract_libO {f : Nat} {fn : Func} {args : List Ct} {res : List Res} (hf : P.funcs[f]? = some fn) (hname : ((fn.name == "runtime.NumGoroutine") || !fn.body.isSome) = false)
    (h : ∀ (tg : Nat → Value) (w : World) (Bp : Nat → Prop) (vals : List Value), G.G w → (∀ b, Bp b → b < w.heap.size) → ArgsRep tg w Bp args vals →
      Calls P f vals.toArray w fun e w' => ∃ v fp, e = .returned v ∧ RowKit.Below w.heap.size w w' ∧ fp.Nodup ∧ (∀ b, b ∈ fp → w.heap.size ≤ b ∧ b < w'.heap.size) ∧
        ResRep tg w' (fun b => Bp b ∨ (w.heap.size ≤ b ∧ b < w'.heap.size ∧ b ∉ fp)) res v fp) : Contract G P f args res := by
  intro tg w Bp vals hG hBp ha
  have h1 := h tg w Bp vals hG hBp ha
  simp only [Bool.or_eq_false_iff, Bool.not_eq_false'] at hname
  obtain ⟨c, hb⟩ := Option.isSome_iff_exists.1 hname.2
  have hrun : (callFunc f vals.toArray).run P w = .ok (.enter f vals.toArray) w := by
    have hn : ¬ fn.name = "runtime.NumGoroutine" := by simpa using hname.1
    simp [callFunc, hf, hn, hb]
  unfold CallsV
  rw [hrun]
  refine h1.mono ?_
  rintro e w' ⟨v, fp, rfl, hbel, h1, h2, hr⟩
  exact ⟨v, rfl, fp, hbel, h1, h2, hr⟩

theorem below_drewN (w : World) (k : Nat) : RowKit.Below w.heap.size w (w.drewN k) := ⟨rfl, rfl, rfl, Nat.le_refl _, fun _ _ => rfl⟩

theorem alloc_lt (w : World) (o : Obj) : w.heap.size < (w.alloc o).heap.size := by
  show w.heap.size < (w.heap.push o).size
  rw [Array.size_push]; omega

/-! strings.Contains -/
def libContains (s p : ByteArray) : Option (Bool × Unit) := guardB (decide (s.size < 4294967281)) (some (Lib.contains s.data.toList p.data.toList, ()))
theorem libContains_con {f : Nat} {fn : Func} (hf : P.funcs[f]? = some fn) (hname : ((fn.name == "runtime.NumGoroutine") || !fn.body.isSome) = false)
    (h : ∀ (s p : ByteArray) (w : World), G.G w → s.size < 4294967281 → Calls P f #[.string s, .string p] w fun e w' => e = .returned (.bool (Lib.contains s.data.toList p.data.toList)) ∧ w' = w) :
    ∀ (x : Elts [.str, .str]) (r : Outs [(.bool, .no)]), libContains x.1 x.2.1 = some r → Contract G P f (mkArgs [.str, .str] x) (mkRes [(.bool, .no)] r) := by
  rintro ⟨s, p, ⟨⟩⟩ r hr
  obtain ⟨hg, hr⟩ := guardB_some hr
  simp only [Option.some.injEq] at hr
  subst hr
  refine contract_lib hf hname rfl fun tg w Bp vals hG hBp ha => ?_
  obtain ⟨cs, vs, rfl, hr1, cs2, vs2, rfl, hr2, rfl⟩ := ha
  obtain ⟨rfl, _⟩ := hr1
  obtain ⟨rfl, _⟩ := hr2
  refine (h s p w hG (of_decide_eq_true hg)).mono ?_
  rintro e w' ⟨rfl, rfl⟩
  exact ⟨_, rfl, RowKit.Below.refl _ _, [.bool _], rfl, rfl, rfl⟩

/-! strings.Cut -/
def libCut (s p : ByteArray) : Option (ByteArray × ByteArray × Bool × Unit) := guardB (decide (s.size < 4294967281))
  (some (⟨(Lib.cut s.data.toList p.data.toList).1.toArray⟩, ⟨(Lib.cut s.data.toList p.data.toList).2.1.toArray⟩, (Lib.cut s.data.toList p.data.toList).2.2, ()))
theorem libCut_con {f : Nat} {fn : Func} (hf : P.funcs[f]? = some fn) (hname : ((fn.name == "runtime.NumGoroutine") || !fn.body.isSome) = false)
    (h : ∀ (s p : ByteArray) (w : World), G.G w → s.size < 4294967281 → Calls P f #[.string s, .string p] w fun e w' =>
      e = .returned (.tuple #[.string ⟨(Lib.cut s.data.toList p.data.toList).1.toArray⟩, .string ⟨(Lib.cut s.data.toList p.data.toList).2.1.toArray⟩, .bool (Lib.cut s.data.toList p.data.toList).2.2]) ∧ ∃ n, w' = w.drewN n) :
    ∀ (x : Elts [.str, .str]) (r : Outs [(.str, .no), (.str, .no), (.bool, .no)]), libCut x.1 x.2.1 = some r → Contract G P f (mkArgs [.str, .str] x) (mkRes [(.str, .no), (.str, .no), (.bool, .no)] r) := by
  rintro ⟨s, p, ⟨⟩⟩ r hr
  obtain ⟨hg, hr⟩ := guardB_some hr
  simp only [Option.some.injEq] at hr
  subst hr
  refine contract_lib hf hname rfl fun tg w Bp vals hG hBp ha => ?_
  obtain ⟨cs, vs, rfl, hr1, cs2, vs2, rfl, hr2, rfl⟩ := ha
  obtain ⟨rfl, _⟩ := hr1
  obtain ⟨rfl, _⟩ := hr2
  refine (h s p w hG (of_decide_eq_true hg)).mono ?_
  rintro e w' ⟨rfl, n, rfl⟩
  exact ⟨_, rfl, below_drewN w n, [.string _, .string _, .bool _], rfl, [.string _], [.string _, .bool _], [], [], rfl, rfl, ⟨rfl, rfl⟩, [.string _], [.bool _], [], [], rfl, rfl, ⟨rfl, rfl⟩, [.bool _], [], [], [], rfl, rfl, ⟨rfl, rfl⟩, rfl, rfl⟩

/-! lists of strings that were made anew -/
theorem strs_rep {tg : Nat → Value} {w : World} {B : Nat → Prop} {b c : Nat} {T : TypeId} {l : List ByteArray} (hw : w.heap[b]? = some (.cells (Lib.cellsOf l c) T (0, 0))) (hl : l.length ≤ c) :
    Rep tg w B (.sl .str) (.own none .no) l [.slice (some ⟨b, 0, none⟩) l.length c] [b] := by
  refine ⟨_, _, _, rfl, rfl, hl, (fun q hq => by cases hq), Or.inr ⟨b, 0, _, T, List.replicate l.length [], rfl, hw, ?_, by simp, by simp, fun i hi => ?_⟩⟩
  · rw [Lib.cellsOf_size hl]; simp [Ty.size]
  · have e : ((Lib.cellsOf l c).toList.drop (0 + i * Ty.str.size)).take Ty.str.size = [.string l[i]] := by
      have h1 : (Lib.cellsOf l c).toList = l.map Value.string ++ List.replicate (c - l.length) (Value.string ByteArray.empty) := rfl
      have h2 : 0 + i * Ty.str.size = i := by simp [Ty.size]
      rw [h1, h2, show Ty.str.size = 1 from rfl, List.drop_append_of_le_length (by simp; omega), List.drop_eq_getElem_cons (by simpa using hi)]
      simp
    rw [e]
    refine ⟨rfl, ?_⟩
    simp [List.getD_eq_getElem?_getD, List.getElem?_replicate, hi]
/-! strings.SplitN, strings.Split -/
def libSplitN (s p : ByteArray) (n : Int) : Option (List ByteArray × Unit) := guardB (decide (s.size < 4294967281) && (decide (1 ≤ p.size) && (decide (1 ≤ n) && decide (n ≤ 9223372036854775807))))
  (some (Lib.splitB p 0 (min n.toNat (s.size + 1) - 1) s, ()))
theorem libSplitN_con {f : Nat} {fn : Func} {T : TypeId} (hf : P.funcs[f]? = some fn) (hname : ((fn.name == "runtime.NumGoroutine") || !fn.body.isSome) = false)
    (h : ∀ (s p : ByteArray) (n : Nat) (w : World), G.G w → s.size < 4294967281 → 1 ≤ p.size → 1 ≤ n → n ≤ 9223372036854775807 → Calls P f #[.string s, .string p, .int .i64 n] w fun e w' =>
      e = .returned (.slice (some ⟨w.heap.size, 0, none⟩) (Lib.splitB p 0 (min n (s.size + 1) - 1) s).length (min n (s.size + 1))) ∧ w' = w.alloc (.cells (Lib.cellsOf (Lib.splitB p 0 (min n (s.size + 1) - 1) s) (min n (s.size + 1))) T)) :
    ∀ (x : Elts [.str, .str, .int .i64]) (r : Outs [(.sl .str, .own none .no)]), libSplitN x.1 x.2.1 x.2.2.1 = some r → Contract G P f (mkArgs [.str, .str, .int .i64] x) (mkRes [(.sl .str, .own none .no)] r) := by
  rintro ⟨s, p, n, ⟨⟩⟩ r hr
  obtain ⟨hg, hr⟩ := guardB_some hr
  simp only [Option.some.injEq] at hr
  subst hr
  simp only [Bool.and_eq_true, decide_eq_true_eq] at hg
  refine contract_libO hf hname fun tg w Bp vals hG hBp ha => ?_
  obtain ⟨cs, vs, rfl, hr1, cs2, vs2, rfl, hr2, cs3, vs3, rfl, hr3, rfl⟩ := ha
  obtain ⟨rfl, _⟩ := hr1
  obtain ⟨rfl, _⟩ := hr2
  obtain ⟨rfl, _⟩ := hr3
  obtain ⟨m, rfl⟩ := Int.eq_ofNat_of_zero_le (a := n) (Int.le_trans (by decide) hg.2.2.1)
  have h1 := h s p m w hG hg.1 hg.2.1 (Int.ofNat_le.1 hg.2.2.1) (Int.ofNat_le.1 hg.2.2.2)
  rw [show Int.toNat (m : Int) = m from rfl]
  refine h1.mono ?_
  rintro e w' ⟨rfl, rfl⟩
  have hle : (Lib.splitB p 0 (min m (s.size + 1) - 1) s).length ≤ min m (s.size + 1) := by
    have := Lib.splitB_length_le p 0 (min m (s.size + 1) - 1) s
    have := Int.ofNat_le.1 hg.2.2.1
    omega
  exact ⟨_, [w.heap.size], rfl, alloc_below _ _, by simp, (fun b hb => by obtain rfl := List.mem_singleton.1 hb; exact ⟨Nat.le_refl _, alloc_lt _ _⟩), [.slice _ _ _], rfl, strs_rep (alloc_heap _ _) hle⟩
def libSplit (s p : ByteArray) : Option (List ByteArray × Unit) := guardB (decide (s.size < 4294967281) && decide (1 ≤ p.size))
  (some (Lib.splitB p 0 (Lib.countB s p) s, ()))
theorem libSplit_con {f : Nat} {fn : Func} {T : TypeId} (hf : P.funcs[f]? = some fn) (hname : ((fn.name == "runtime.NumGoroutine") || !fn.body.isSome) = false)
    (h : ∀ (s p : ByteArray) (w : World), G.G w → s.size < 4294967281 → 1 ≤ p.size → Calls P f #[.string s, .string p] w fun e w' =>
      e = .returned (.slice (some ⟨w.heap.size, 0, none⟩) (Lib.countB s p + 1) (Lib.countB s p + 1)) ∧ w' = w.alloc (.cells ((Lib.splitB p 0 (Lib.countB s p) s).map Value.string).toArray T)) :
    ∀ (x : Elts [.str, .str]) (r : Outs [(.sl .str, .own none .no)]), libSplit x.1 x.2.1 = some r → Contract G P f (mkArgs [.str, .str] x) (mkRes [(.sl .str, .own none .no)] r) := by
  rintro ⟨s, p, ⟨⟩⟩ r hr
  obtain ⟨hg, hr⟩ := guardB_some hr
  simp only [Option.some.injEq] at hr
  subst hr
  simp only [Bool.and_eq_true, decide_eq_true_eq] at hg
  refine contract_libO hf hname fun tg w Bp vals hG hBp ha => ?_
  obtain ⟨cs, vs, rfl, hr1, cs2, vs2, rfl, hr2, rfl⟩ := ha
  obtain ⟨rfl, _⟩ := hr1
  obtain ⟨rfl, _⟩ := hr2
  refine (h s p w hG hg.1 hg.2).mono ?_
  rintro e w' ⟨rfl, rfl⟩
  have hlen : (Lib.splitB p 0 (Lib.countB s p) s).length = Lib.countB s p + 1 := Lib.splitB_all p hg.2 0 _ s rfl
  refine ⟨_, [w.heap.size], rfl, alloc_below _ _, by simp, (fun b hb => by obtain rfl := List.mem_singleton.1 hb; exact ⟨Nat.le_refl _, alloc_lt _ _⟩), [.slice _ _ _], rfl, ?_⟩
  have := strs_rep (tg := tg) (B := fun b => Bp b ∨ (w.heap.size ≤ b ∧ b < (w.alloc (.cells ((Lib.splitB p 0 (Lib.countB s p) s).map Value.string).toArray T)).heap.size ∧ b ∉ [w.heap.size])) (l := Lib.splitB p 0 (Lib.countB s p) s) (c := Lib.countB s p + 1) (T := T) (b := w.heap.size)
    (w := w.alloc (.cells ((Lib.splitB p 0 (Lib.countB s p) s).map Value.string).toArray T)) (by rw [← hlen, Lib.cellsOf_full]; exact alloc_heap _ _) (by omega)
  rw [hlen] at this
  exact this

/-! strings.Join -/
def libJoin (xs : List ByteArray) (p : ByteArray) : Option (ByteArray × Unit) := guardB (decide (xs.length ≤ 140737488355328) && decide ((Lib.join (xs.map (·.data.toList)) p.data.toList).length ≤ 140737488355328))
  (some (⟨(Lib.join (xs.map (·.data.toList)) p.data.toList).toArray⟩, ()))
theorem libJoin_con {f : Nat} {fn : Func} (hf : P.funcs[f]? = some fn) (hname : ((fn.name == "runtime.NumGoroutine") || !fn.body.isSome) = false)
    (h0 : ∀ (a : Option Addr) (c : Nat) (p : ByteArray) (w : World), Calls P f #[.slice a 0 c, .string p] w fun e w' => e = .returned (.string ⟨#[]⟩) ∧ w' = w)
    (h : ∀ (bk o c : Nat) (xs : List ByteArray) (p : ByteArray) (w : World), (∀ (j : Nat) x, xs[j]? = some x → w.cell? ⟨bk, o + j, none⟩ = some (.string x)) → bk < w.heap.size → xs.length ≤ 140737488355328 → xs.length ≤ c →
      (Lib.join (xs.map (·.data.toList)) p.data.toList).length ≤ 140737488355328 →
      Calls P f #[.slice (some ⟨bk, o, none⟩) xs.length c, .string p] w fun e w' => e = .returned (.string ⟨(Lib.join (xs.map (·.data.toList)) p.data.toList).toArray⟩) ∧ RowKit.Below w.heap.size w w') :
    ∀ (x : Elts [.sl .str, .str]) (r : Outs [(.str, .no)]), libJoin x.1 x.2.1 = some r → Contract G P f (mkArgs [.sl .str, .str] x) (mkRes [(.str, .no)] r) := by
  rintro ⟨xs, p, ⟨⟩⟩ r hr
  obtain ⟨hg, hr⟩ := guardB_some hr
  simp only [Option.some.injEq] at hr
  subst hr
  simp only [Bool.and_eq_true, decide_eq_true_eq] at hg
  refine contract_lib hf hname rfl fun tg w Bp vals hG hBp ha => ?_
  obtain ⟨cs, vs, rfl, hr1, cs2, vs2, rfl, hr2, rfl⟩ := ha
  obtain ⟨rfl, _⟩ := hr2
  obtain ⟨A, n, c, rfl, hn, hc, -, hx⟩ := hr1
  subst hn
  cases xs with
  | nil =>
    refine (h0 A c p w).mono ?_
    rintro e w' ⟨rfl, rfl⟩
    exact ⟨_, rfl, RowKit.Below.refl _ _, [.string _], rfl, rfl, rfl⟩
  | cons x0 xr =>
    obtain ⟨b, off, ds, rfl, hB, _⟩ := hx 0 (by simp)
    refine (h b off c (x0 :: xr) p w (fun j x hj => ?_) (hBp b hB) hg.1 hc hg.2).mono ?_
    · obtain ⟨hj1, rfl⟩ := List.getElem?_eq_some_iff.1 hj
      obtain ⟨b', off', ds', e1, -, hl, hm, hr⟩ := hx j hj1
      simp only [Option.some.injEq, Addr.mk.injEq] at e1
      obtain ⟨rfl, rfl, -⟩ := e1
      obtain ⟨rfl, -⟩ := hr
      have := hm.cell (j := 0) rfl
      simpa [Ty.size] using this
    · rintro e w' ⟨rfl, hb⟩
      exact ⟨_, rfl, hb, [.string _], rfl, rfl, rfl⟩

theorem parse_bound {l : List UInt8} {v : Int} (h : Lib.parseIntB 64 l = .ok v) : -9223372036854775808 ≤ v ∧ v ≤ 9223372036854775807 := by
  have := Lib.parseIntB_bounds h
  simp only [show ((2 ^ (64 - 1) : Nat) : Int) = 9223372036854775808 from rfl] at this
  omega
/-! a number's text, read back (impl.ReadDecimal) -/
def readDec (l : List UInt8) : Int × Bool := match Lib.parseIntB 64 l with
  | .ok v => cond (decide (18 < (Lib.trimPrefix l [45]).length) || !((Lib.itoa v) == l)) (0, false) (v, true)
  | _ => (0, false)
def libReadDecimal (s : ByteArray) : Option (Int × Bool × Unit) := guardB (decide (s.size ≤ 281474976710656)) (some ((readDec s.data.toList).1, (readDec s.data.toList).2, ()))
theorem libReadDecimal_con {f : Nat} {fn : Func} (hf : P.funcs[f]? = some fn) (hname : ((fn.name == "runtime.NumGoroutine") || !fn.body.isSome) = false)
    (h : ∀ (s : ByteArray) (w : World), G.G w → s.size ≤ 281474976710656 → Calls P f #[.string s] w fun e w' => e = .returned (.tuple #[.int .i64 (readDec s.data.toList).1, .bool (readDec s.data.toList).2]) ∧ RowKit.Below w.heap.size w w') :
    ∀ (x : Elts [.str]) (r : Outs [(.int .i64, .no), (.bool, .no)]), libReadDecimal x.1 = some r → Contract G P f (mkArgs [.str] x) (mkRes [(.int .i64, .no), (.bool, .no)] r) := by
  rintro ⟨s, ⟨⟩⟩ r hr
  obtain ⟨hg, hr⟩ := guardB_some hr
  simp only [Option.some.injEq] at hr
  subst hr
  refine contract_lib hf hname rfl fun tg w Bp vals hG hBp ha => ?_
  obtain ⟨cs, vs, rfl, hr1, rfl⟩ := ha
  obtain ⟨rfl, _⟩ := hr1
  refine (h s w hG (of_decide_eq_true hg)).mono ?_
  rintro e w' ⟨rfl, hb⟩
  exact ⟨_, rfl, hb, [.int .i64 _, .bool _], rfl, [.int .i64 _], [.bool _], [], [], rfl, rfl, ⟨rfl, rfl⟩, [.bool _], [], [], [], rfl, rfl, ⟨rfl, rfl⟩, rfl, rfl⟩
end
end Go.Ev
/-
  Whence a row has what the contracts ask of package variables: from the world's shape, and from what is listed as laid.
-/
namespace Go.Ev

/-- An interface's variable, wherever it stands on the list of what start-up laid. -/
theorem err_of_laid {P : Program} {W : World} {name : String} {g : Nat} {t : TypeId} {ms : Array (String × TypeId)} {s : String} {d : DataW Unit}
    (hg : P.globalNamed name = some g) (hty : (P.globals[g]?).map (·.type) = some t) (ht : P.underlying t = some (.interface ms)) :
    ∀ {l : List (String × DataW Unit)} {ps : List MemPlace}, DataW.LaidVars P W l ps → (name, DataW.iface s d) ∈ l → ∃ v, W.cell? ⟨g, 0, none⟩ = some v ∧ isErr v
  | [], _, _, h => by simp at h
  | x :: l, ps, ⟨g', t', cs, fuel, p, q, hg', ht', hvar, hd, hrest, _⟩, h => by
    rcases List.mem_cons.1 h with rfl | h
    · obtain rfl := Option.some.inj (hg.symm.trans hg')
      obtain rfl := Option.some.inj (hty.symm.trans ht')
      obtain ⟨_, u, v, hcs, _, _⟩ := iface_of_trod ht hd
      refine ⟨.iface u v, ?_, Or.inr ⟨u, v, rfl⟩⟩
      rw [var?_cell hg hvar]
      have : cs = #[.iface u v] := by cases cs; simp_all
      rw [this]
      rfl
    · exact err_of_laid hg hty ht hrest h
theorem tab_lt {P : Program} {w : World} {name : String} {g : Nat} {x : Array Value} (hg : P.globalNamed name = some g) (h : w.var? P name = some x) : g < w.heap.size := var_lt hg h
theorem cell_lt {w : World} {g : Nat} {v : Value} (h : w.cell? ⟨g, 0, none⟩ = some v) : g < w.heap.size := by
  unfold World.cell? at h
  rcases Nat.lt_or_ge g w.heap.size with hlt | hge
  · exact hlt
  · simp [Array.getElem?_eq_none hge] at h

variable {H : Type} {enc : TypeId × Value → H}
/-- The plain wrap with a further condition, the world's shape kept. -/
theorem returnsInHanded_and_shaped {a : Assume} {C : Checked} {os : Os} {f : FuncId} {fn : Func} {s : ChangeSpec} {conds : List PathCond} {apart fresh handsOn again : Bool} {X : World → Array Value → Prop}
    (hX : ∀ (w w' : World) (args : Array Value), w.heap = w'.heap → X w args → X w' args)
    (own : ownKnob C.prog.godebug = none) (started : os.Started) (noInit : C.prog.inits.idxOf? f = none) (hfn : C.prog.funcs[f]? = some fn)
    (witness : ∃ (w : World) (tape : Tape) (i : Input), w.os = os ∧ (w.forCall tape i).Shaped C.prog ∧ i.vars = [] ∧ Input.okWide C.prog (w.forCall tape i) .any w.heap.size f i ∧
      ((s.pre enc C.prog fn conds apart (w.forCall tape i).memory i.args ∧ X (w.forCall tape i).memory i.args) ∧ sizedMet enc C.prog fn (OpenSpec.ofChange s) apart (w.forCall tape i).memory i.args) ∧ a.holds C.prog (lone (Frame.enter C.prog f i.args .normal) [] (w.forCall tape i)))
    (contract : ∀ (W : World) (base : Nat) (args : Array Value) (ds gs : List (DataW H)) (before : List MemPlace),
      (∀ (j : Nat) t v, fn.params[j]? = some t → args[j]? = some v → Value.okWide C.prog W .any base t v) →
      DataW.Whole enc C.prog fn.params.toList s.vars apart W args.toList ds gs before →
      conds.all (PathCond.test C.prog ⟨fn.params.toList, ds, s.plain.varTypes C.prog, gs⟩) = true →
      (DataW.weightsEach C.prog (fn.params.toList ++ s.plain.varTypes C.prog) (ds ++ gs)).all (· ≤ reachBytes) = true → X W args → W.ShapedOpen C.prog →
      Calls C.prog f args W fun e W' => ∃ v, e = .returned v ∧ s.post enc C.prog fn apart fresh handsOn again W args v W') :
    ReturnsInHanded a C os f .any (fun w args => (s.pre enc C.prog fn conds apart w args ∧ X w args) ∧ sizedMet enc C.prog fn (OpenSpec.ofChange s) apart w args) (s.post enc C.prog fn apart fresh handsOn again) := by
  refine returnsInHanded_of_calls own started noInit witness ?_
  intro w tape i _ hsh _ hok hpre hholds
  obtain ⟨_, _, _, fn', hfn', _, _, _, _, hval⟩ := hok
  have e : fn' = fn := Option.some.inj (hfn'.symm.trans hfn)
  subst e
  obtain ⟨⟨⟨ds, gs, before, hw, hc⟩, hx⟩, hz⟩ := hpre
  have hw' := DataW.Whole.of_heap (w' := w.forCall tape i) (by rfl) hw
  refine (contract (w.forCall tape i) w.heap.size i.args ds gs before hval hw' hc (hz.weights hw) (hX _ _ _ (by rfl) hx) hsh).mono fun e W' ⟨v, he, hp⟩ => ?_
  subst he
  exact ChangeSpec.post_blind hp
end Go.Ev
