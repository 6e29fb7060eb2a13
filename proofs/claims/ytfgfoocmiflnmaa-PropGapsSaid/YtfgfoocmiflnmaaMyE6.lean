/- THE ENGINE, part 6: a region of open order by an invariant; one whose last operations write. Nothing of a program stands here. -/
import Derived.Test.YtfgfoocmiflnmaaMyE5
namespace Go.Arr
open Go.RowKit
variable {P : Program} {n : Nat} {ops : Array Oper} {Q : Exit → Act → World → Prop} {w : World} {L : Env}

structure Inv2 (n : Nat) (ops : Array Oper) (T : Tab) (L : Env) (I : (Nat → Bool) → (Nat → Value) → World → Prop) (listed : Array Bool) (a : Act) (w : World) (vs : Nat → Value) : Prop where
  len : listed.size = ops.size
  closed : ∀ i, i < ops.size → listed.getD i false = true → ∀ j ∈ T.anc i, j < ops.size ∧ listed.getD j false = true
  defers : a.defers = []
  size : a.tmps.size = n
  inv : I (fun j => listed.getD j false) vs w
  posts : ∀ i, i < ops.size → listed.getD i false = true → ∀ d, dstOf ops i = some d → a.tmps[d]? = some (vs i)
  base : ∀ t v, L.get t = some v → (∀ i, i < ops.size → listed.getD i false = true → dstOf ops i ≠ some t) → a.tmps[t]? = some v

/-- Number i is done too. -/
def upD (D : Nat → Bool) (i : Nat) : Nat → Bool := fun j => if j = i then true else D j
def upV (vs : Nat → Value) (i : Nat) (v : Value) : Nat → Value := fun j => if j = i then v else vs j

/-- By an invariant over what is done so far. -/
theorem W_inv {id : Nat} (T : Tab) (I : (Nat → Bool) → (Nat → Value) → World → Prop) (hm : P.follows .mixedOrders = true) (hT : okT n ops T = true) (h0 : I (fun _ => false) (fun _ => undef) w.drew)
    (hop : ∀ i, i < ops.size → ∀ D vs w', D i = false → (∀ j ∈ T.anc i, j < ops.size ∧ D j = true) → (∀ j, j < ops.size → i ∈ T.anc j → D j = false) → I D vs w' → One P n ops Q i (envAt ops T L vs i) w' (fun v w'' => I (upD D i) (upV vs i v) w''))
    (hend : ∀ D vs w', (∀ j, j < ops.size → D j = true) → I D vs w' → WO P n ops [] (envAt ops T L vs ops.size) Q w') : W P n L (.region id ops true) Q w := by
  intro a0 ha0
  simp only [okT, Bool.and_eq_true, List.all_eq_true, List.mem_range] at hT
  obtain ⟨⟨hT1, hT2⟩, hT3⟩ := hT
  have hrow : ∀ i, i < ops.size → ∃ o, ops[i]? = some o ∧ dstOk n ops i = true ∧ (∀ e ∈ o.after.toList, Region.binds .any e = true → e.on < i) ∧
      (∀ j ∈ T.anc i, ∃ e ∈ o.after.toList, Region.binds .any e = true ∧ (e.on = j ∨ j ∈ T.anc e.on)) ∧
      (∀ k ∈ T.keys i, ∀ j, j < ops.size → dstOf ops j = some k → j = i ∨ i ∈ T.anc j) ∧ (∀ j, j < ops.size → ∀ d, dstOf ops j = some d → dstOf ops i = some d → j = i) := by
    intro i hi
    have h := hT1 i hi
    cases ho : ops[i]? with
    | none => rw [ho] at h; cases h
    | some o =>
      rw [ho] at h
      simp only [Bool.and_eq_true, List.all_eq_true, List.mem_range, Bool.or_eq_true, Bool.not_eq_true', List.any_eq_true] at h
      obtain ⟨⟨⟨⟨h1, h2⟩, h3⟩, h4⟩, h5⟩ := h
      refine ⟨o, rfl, h1, fun e he hb => ?_, fun j hj => ?_, fun k hk j hj hd => ?_, fun j hj d hd hdi => ?_⟩
      · rcases h2 e he with h | h
        · rw [hb] at h; cases h
        · exact Nat.lt_of_lt_of_le (Nat.le_of_ble_eq_true h) (Nat.le_refl _)
      · obtain ⟨e, he, hb, h⟩ := h3 j hj
        refine ⟨e, he, hb, ?_⟩
        rcases h with h | h
        · exact .inl (Nat.eq_of_beq_eq_true h)
        · exact .inr (has_iff.1 h)
      · rcases h4 k hk j hj with (h | h) | h
        · have : sameDst (dstOf ops j) (some k) = true := sameDst_iff.2 ⟨k, hd, rfl⟩
          rw [this] at h; cases h
        · exact .inl (Nat.eq_of_beq_eq_true h)
        · exact .inr (has_iff.1 h)
      · rcases h5 j hj with h | h
        · exact Nat.eq_of_beq_eq_true h
        · have : sameDst (dstOf ops j) (dstOf ops i) = true := sameDst_iff.2 ⟨d, hd, hdi⟩
          rw [this] at h; cases h
  have hend2 : ∀ k ∈ T.keys ops.size, ∀ j, j < ops.size → dstOf ops j ≠ some k := by
    intro k hk j hj hd
    have h := hT2 k hk j hj
    have h2 : sameDst (dstOf ops j) (some k) = true := sameDst_iff.2 ⟨k, hd, rfl⟩
    rw [h2] at h
    cases h
  have hend3 : ∀ j ∈ T.anc ops.size, j < ops.size := fun j hj => Nat.lt_of_lt_of_le (Nat.le_of_ble_eq_true (hT3 j hj)) (Nat.le_refl _)
  -- the frame at operation i (or at the end)
  have frame : ∀ {listed : Array Bool} {a : Act} {w' : World} {vs : Nat → Value} (hI : Inv2 n ops T L I listed a w' vs) (i : Nat), (∀ j ∈ T.anc i, j < ops.size ∧ listed.getD j false = true) →
      (∀ k ∈ T.keys i, ∀ j, j < ops.size → listed.getD j false = true → dstOf ops j ≠ some k) → Fr n (envAt ops T L vs i) a := by
    intro listed a w' vs hI i hanc hkeys
    refine ⟨hI.defers, hI.size, fun t v hv => ?_⟩
    have hmem := Env.get_mem hv
    rcases List.mem_append.1 hmem with h | h
    · obtain ⟨j, hj, he⟩ := List.mem_filterMap.1 h
      obtain ⟨hjl, hjd⟩ := hanc j hj
      cases hd : dstOf ops j with
      | none => rw [hd] at he; cases he
      | some d =>
        rw [hd] at he
        simp only [Option.map_some, Option.some.injEq, Prod.mk.injEq] at he
        obtain ⟨rfl, rfl⟩ := he
        exact hI.posts j hjl hjd d hd
    · obtain ⟨k, hk, he⟩ := List.mem_filterMap.1 h
      cases hg : L.get k with
      | none => rw [hg] at he; cases he
      | some u =>
        rw [hg] at he
        simp only [Option.map_some, Option.some.injEq, Prod.mk.injEq] at he
        obtain ⟨rfl, rfl⟩ := he
        exact hI.base k u hg (fun j hj hl => hkeys k hk j hj hl)
  have key : ∀ (fuel : Nat) (listed : Array Bool) (a : Act) (w' : World) (vs : Nat → Value), Inv2 n ops T L I listed a w' vs → ((List.range ops.size).filter fun i => !listed.getD i false).length ≤ fuel → wpAny P .any ops Q fuel listed a w' := by
    intro fuel
    have hnone : ∀ (listed : Array Bool), listed.size = ops.size → Region.ready .any ops listed = [] → ∀ i, i < ops.size → listed.getD i false = true := by
      intro listed hlen hr i
      induction i using Nat.strongRecOn with
      | _ i ih =>
        intro hi
        rcases Bool.eq_false_or_eq_true (listed.getD i false) with h | h
        · exact h
        · exfalso
          have hin : i ∈ Region.ready .any ops listed := by
            obtain ⟨o, ho, _, hlt, _⟩ := hrow i hi
            refine List.mem_filter.2 ⟨List.mem_range.2 hi, ?_⟩
            have hg : listed.getD i true = false := by
              have hil : i < listed.size := by omega
              simp only [Array.getD, hil, dite_true] at h ⊢
              exact h
            simp only [hg, Bool.not_false, Bool.true_and, ho, Option.map_some, Option.getD_some]
            rw [Array.all_eq_true']
            intro e he
            have he' := Array.mem_toList_iff.2 he
            cases hb : Region.binds .any e with
            | false => simp
            | true =>
              have := hlt e he' hb
              simp only [Bool.not_true, Bool.false_or]
              exact ih e.on this (by omega)
          rw [hr] at hin
          cases hin
    have done : ∀ (listed : Array Bool) (a : Act) (w' : World) (vs : Nat → Value), Inv2 n ops T L I listed a w' vs → Region.ready .any ops listed = [] → Q .normal a w' := by
      intro listed a w' vs hI hr
      have hall := hnone listed hI.len hr
      have hw := hend _ vs w' hall hI.inv
      have hf := frame hI ops.size (fun j hj => ⟨hend3 j hj, hall j (hend3 j hj)⟩) (fun k hk j hj _ => hend2 k hk j hj)
      exact hw a hf
    induction fuel with
    | zero =>
      intro listed a w' vs hI hc
      have hr : Region.ready .any ops listed = [] := by
        rw [List.eq_nil_iff_forall_not_mem]
        intro i hi
        obtain ⟨hi1, hi2⟩ := List.mem_filter.1 hi
        have : i ∈ (List.range ops.size).filter fun i => !listed.getD i false := by
          refine List.mem_filter.2 ⟨hi1, ?_⟩
          simp only [Bool.and_eq_true, Bool.not_eq_true'] at hi2
          have hil : i < listed.size := by rw [hI.len]; exact List.mem_range.1 hi1
          have h2 := hi2.1
          rw [Array.getD_eq_getD_getElem?, Array.getElem?_eq_getElem hil] at h2 ⊢
          simpa using h2
        have h0 : ((List.range ops.size).filter fun i => !listed.getD i false) = [] := List.length_eq_zero_iff.1 (by omega)
        rw [h0] at this
        cases this
      exact ⟨hr, done listed a w' vs hI hr⟩
    | succ fuel ih =>
      intro listed a w' vs hI hc
      refine ⟨fun hr => done listed a w' vs hI hr, fun i hi => ?_⟩
      obtain ⟨hi1, hi2⟩ := List.mem_filter.1 hi
      have hil : i < ops.size := List.mem_range.1 hi1
      obtain ⟨o, ho, hdst, hlt, hanc, hkeys, huniq⟩ := hrow i hil
      simp only [Bool.and_eq_true, Bool.not_eq_true', ho, Option.map_some, Option.getD_some] at hi2
      obtain ⟨hnot, hpre⟩ := hi2
      have hnot' : listed.getD i false = false := by
        have hill : i < listed.size := by rw [hI.len]; exact hil
        simp only [Array.getD, hill, dite_true] at hnot ⊢
        exact hnot
      have hpre' : ∀ e ∈ o.after.toList, Region.binds .any e = true → listed.getD e.on false = true := by
        intro e he hb
        have := Array.all_eq_true'.1 hpre e (Array.mem_toList_iff.1 he)
        simpa [hb] using this
      have hancl : ∀ j ∈ T.anc i, j < ops.size ∧ listed.getD j false = true := by
        intro j hj
        obtain ⟨e, he, hb, h⟩ := hanc j hj
        have hon : e.on < ops.size := by have := hlt e he hb; omega
        have hl := hpre' e he hb
        rcases h with rfl | h
        · exact ⟨hon, hl⟩
        · exact hI.closed e.on hon hl j h
      have hf := frame hI i hancl (fun k hk j hj hl hd => by
        rcases hkeys k hk j hj hd with rfl | h
        · rw [hnot'] at hl; cases hl
        · have := (hI.closed j hj hl i h).2
          rw [hnot'] at this; cases this)
      have hone := hop i hil _ vs w' hnot' (fun j hj => hancl j hj) (fun j hj hij => by
        cases hl : listed.getD j false with
        | false => rfl
        | true => have := (hI.closed j hj hl i hij).2; rw [hnot'] at this; cases this) hI.inv
      refine hone a hf _ fun v w'' hp => ?_
      have hD : (fun j => (listed.setIfInBounds i true).getD j false) = upD (fun j => listed.getD j false) i := by
        funext j
        unfold upD
        by_cases hji : j = i
        · subst hji
          rw [Array.getD_eq_getD_getElem?, Array.getElem?_setIfInBounds_self, if_pos rfl]
          simp [hI.len, hil]
        · rw [Array.getD_eq_getD_getElem?, Array.getElem?_setIfInBounds_ne (Ne.symm hji), ← Array.getD_eq_getD_getElem?, if_neg hji]
      refine ih _ _ _ (upV vs i v) ⟨by simp [hI.len], ?_, ?_, ?_, by rw [hD]; exact hp, ?_, ?_⟩ ?_
      · intro j hj hl k hk
        by_cases hji : j = i
        · subst hji
          obtain ⟨h1, h2⟩ := hancl k hk
          refine ⟨h1, ?_⟩
          by_cases hkj : k = j
          · subst hkj; rw [hnot'] at h2; cases h2
          · rw [Array.getD_eq_getD_getElem?, Array.getElem?_setIfInBounds_ne (Ne.symm hkj), ← Array.getD_eq_getD_getElem?]; exact h2
        · rw [Array.getD_eq_getD_getElem?, Array.getElem?_setIfInBounds_ne (Ne.symm hji), ← Array.getD_eq_getD_getElem?] at hl
          obtain ⟨h1, h2⟩ := hI.closed j hj hl k hk
          refine ⟨h1, ?_⟩
          by_cases hki : k = i
          · subst hki; rw [hnot'] at h2; cases h2
          · rw [Array.getD_eq_getD_getElem?, Array.getElem?_setIfInBounds_ne (Ne.symm hki), ← Array.getD_eq_getD_getElem?]; exact h2
      · cases dstOf ops i <;> exact hI.defers
      · have := hI.size
        cases dstOf ops i with
        | none => exact this
        | some d => simp [Act.put, this]
      · intro j hj hl
        by_cases hji : j = i
        · subst hji
          simp only [upV, if_true]
          intro d hd
          rw [hd]
          simp only [Act.put]
          have hdn : d < n := by
            unfold dstOk at hdst
            rw [hd] at hdst
            exact Nat.lt_of_lt_of_le (Nat.le_of_ble_eq_true hdst) (Nat.le_refl _)
          rw [Array.getElem?_setIfInBounds_self]
          simp [hI.size, hdn]
        · simp only [upV, if_neg hji]
          rw [Array.getD_eq_getD_getElem?, Array.getElem?_setIfInBounds_ne (Ne.symm hji), ← Array.getD_eq_getD_getElem?] at hl
          have h2 := hI.posts j hj hl
          intro d hd
          cases hdi : dstOf ops i with
          | none => exact h2 d hd
          | some d' =>
            simp only [Act.put]
            have hne : d' ≠ d := by
              rintro rfl
              exact hji (huniq j hj d' hd hdi)
            rw [Array.getElem?_setIfInBounds_ne hne]
            exact h2 d hd
      · intro t u hu hno
        have hti : dstOf ops i ≠ some t := hno i hil (by rw [Array.getD_eq_getD_getElem?, Array.getElem?_setIfInBounds_self]; simp [hI.len, hil])
        have hb := hI.base t u hu (fun j hj hl => hno j hj (by
          by_cases hji : j = i
          · subst hji; rw [hnot'] at hl; cases hl
          · rw [Array.getD_eq_getD_getElem?, Array.getElem?_setIfInBounds_ne (Ne.symm hji), ← Array.getD_eq_getD_getElem?]; exact hl))
        cases hdi : dstOf ops i with
        | none => exact hb
        | some d =>
          simp only [Act.put]
          rw [Array.getElem?_setIfInBounds_ne (fun e => hti (by rw [hdi, e]))]
          exact hb
      · have hin : i ∈ (List.range ops.size).filter fun j => !listed.getD j false := List.mem_filter.2 ⟨hi1, by simp [hnot']⟩
        have hsub : ((List.range ops.size).filter fun j => !(listed.setIfInBounds i true).getD j false).length < ((List.range ops.size).filter fun j => !listed.getD j false).length := by
          have he : ((List.range ops.size).filter fun j => !(listed.setIfInBounds i true).getD j false) = ((List.range ops.size).filter fun j => !listed.getD j false).filter fun j => !(j == i) := by
            rw [List.filter_filter]
            refine List.filter_congr fun j hj => ?_
            by_cases hji : j = i
            · subst hji
              rw [Array.getD_eq_getD_getElem?, Array.getElem?_setIfInBounds_self]
              simp [hI.len, hil]
            · rw [Array.getD_eq_getD_getElem?, Array.getElem?_setIfInBounds_ne (Ne.symm hji), ← Array.getD_eq_getD_getElem?]
              simp [hji]
          rw [he]
          refine List.length_filter_lt_length_iff_exists.2 ⟨i, hin, by simp⟩
        omega
  refine wp_region_any hm ?_
  have hD0 : (fun j => (Array.replicate ops.size false).getD j false) = fun _ => false := by
    funext j
    rw [Array.getD_eq_getD_getElem?, Array.getElem?_replicate]
    split <;> rfl
  refine key ops.size _ a0 w.drew (fun _ => undef) ⟨by simp, ?_, ha0.defers, ha0.size, by rw [hD0]; exact h0, ?_, fun t v hv _ => ha0.get t v hv⟩ ?_
  · intro i hi hl
    rw [Array.getD_eq_getD_getElem?] at hl
    simp [hi] at hl
  · intro i hi hl
    rw [Array.getD_eq_getD_getElem?] at hl
    simp [hi] at hl
  · refine Nat.le_trans (List.length_filter_le _ _) (by simp)

/-! ### the last operations write -/
def idx : List Nat → Nat → Option Nat
  | [], _ => none
  | x :: r, i => bif Nat.beq x i then some 0 else (idx r i).map (· + 1)
theorem idx_some : ∀ {l : List Nat} {i k : Nat}, idx l i = some k → l[k]? = some i
  | x :: r, i, k, h => by
    simp only [idx] at h
    cases hb : Nat.beq x i with
    | true =>
      rw [hb] at h
      simp only [cond_true, Option.some.injEq] at h
      subst h
      simp [Nat.eq_of_beq_eq_true hb]
    | false =>
      rw [hb] at h
      simp only [cond_false, Option.map_eq_some_iff] at h
      obtain ⟨k', hk', rfl⟩ := h
      simpa using idx_some hk'
theorem idx_none : ∀ {l : List Nat} {i : Nat}, idx l i = none → i ∉ l
  | [], _, _ => by simp
  | x :: r, i, h => by
    simp only [idx] at h
    cases hb : Nat.beq x i with
    | true => rw [hb] at h; cases h
    | false =>
      rw [hb] at h
      simp only [cond_false, Option.map_eq_none_iff] at h
      have := Nat.ne_of_beq_eq_false hb
      simp only [List.mem_cons, not_or]
      exact ⟨fun e => this e.symm, idx_none h⟩
def chainOk (T : Tab) : List Nat → Bool
  | x :: y :: r => has (T.anc y) x && chainOk T (y :: r)
  | _ => true
/-- Each writer waits for the one ahead of it; the first one for all that is not pure. -/
def tailOk (m : Nat) (T : Tab) (loud pureL : List Nat) : Bool :=
  (loud.all fun l => Nat.blt l m) && chainOk T loud && (match loud with
    | l :: _ => (List.range m).all fun i => has pureL i || has loud i || has (T.anc l) i
    | [] => false) && pureL.all fun i => !has loud i
theorem chain_prev : ∀ {T : Tab} {loud : List Nat} {k a b : Nat}, chainOk T loud = true → loud[k]? = some a → loud[k + 1]? = some b → a ∈ T.anc b
  | T, x :: y :: r, 0, a, b, h, ha, hb => by
    simp only [chainOk, Bool.and_eq_true] at h
    simp at ha hb
    subst ha; subst hb
    exact has_iff.1 h.1
  | T, x :: y :: r, k + 1, a, b, h, ha, hb => by
    simp only [chainOk, Bool.and_eq_true] at h
    exact chain_prev (loud := y :: r) (k := k) h.2 (by simpa using ha) (by simpa using hb)
  | T, [x], 0, a, b, h, ha, hb => by simp at hb
  | T, [x], k + 1, a, b, h, ha, hb => by simp at hb
  | T, [], k, a, b, h, ha, hb => by simp at ha
def vp (VP : List (Value → Prop)) (i : Nat) : Value → Prop := VP.getD i (fun _ => True)
def wp_ (WP : List (Value → World → Prop)) (i : Nat) : Value → World → Prop := WP.getD i (fun _ _ => True)
/-- What is to be shown of operation i. -/
def Ob (P : Program) (n : Nat) (ops : Array Oper) (Q : Exit → Act → World → Prop) (T : Tab) (L : Env) (VP : List (Value → Prop)) (WP LP : List (Value → World → Prop)) (loud pureL : List Nat) (w : World) (i : Nat) : Prop :=
  bif has pureL i then ∀ vs w', (∀ j, has (T.anc i) j = true → vp VP j (vs j)) → One P n ops Q i (envAt ops T L vs i) w' (fun v w'' => vp VP i v ∧ w'' = w')
  else match idx loud i with
    | none => ∀ vs w', Ch No w.drew w' → (∀ j, has (T.anc i) j = true → vp VP j (vs j) ∧ (has pureL j = false → wp_ WP j (vs j) w')) → One P n ops Q i (envAt ops T L vs i) w' (fun v w'' => vp VP i v ∧ wp_ WP i v w'' ∧ Ch No w' w'')
    | some 0 => ∀ vs w', Ch No w.drew w' → (∀ j, has (T.anc i) j = true → vp VP j (vs j) ∧ (has pureL j = false → wp_ WP j (vs j) w')) → One P n ops Q i (envAt ops T L vs i) w' (fun v w'' => vp VP i v ∧ wp_ LP 0 v w'')
    | some (k + 1) => ∀ vs w', (∀ j, has (T.anc i) j = true → vp VP j (vs j)) → wp_ LP k (vs (loud.getD k 0)) w' → One P n ops Q i (envAt ops T L vs i) w' (fun v w'' => vp VP i v ∧ wp_ LP (k + 1) v w'')

/-- How many of the writers are done, the last one of them, and the world then. -/
def Phase (WP LP : List (Value → World → Prop)) (loud : List Nat) (w : World) (m : Nat) (pureL : List Nat) (D : Nat → Bool) (vs : Nat → Value) (w' : World) : Prop :=
  ((∀ l ∈ loud, D l = false) ∧ Ch No w.drew w' ∧ ∀ j, j < m → has pureL j = false → D j = true → wp_ WP j (vs j) w') ∨
  ∃ k l, loud[k]? = some l ∧ D l = true ∧ (∀ l', loud[k + 1]? = some l' → D l' = false) ∧ wp_ LP k (vs l) w'

theorem W_drawT {id : Nat} (T : Tab) (VP : List (Value → Prop)) (WP LP : List (Value → World → Prop)) (loud pureL : List Nat) (m : Nat) (hn : ops.size = m) (hm : P.follows .mixedOrders = true) (hT : okT n ops T = true) (hch : tailOk m T loud pureL = true)
    (hstab : AllStab (Ch No) WP) (hnd : loud.Nodup) (hop : AllBelow (Ob P n ops Q T L VP WP LP loud pureL w) m)
    (hend : ∀ vs w', (∀ j, j < m → vp VP j (vs j)) → wp_ LP (loud.length - 1) (vs (loud.getD (loud.length - 1) 0)) w' → WO P n ops [] (envAt ops T L vs m) Q w') : W P n L (.region id ops true) Q w := by
  subst hn
  simp only [tailOk, Bool.and_eq_true, List.all_eq_true] at hch
  obtain ⟨⟨⟨hc1, hc2⟩, hc3⟩, hc4⟩ := hch
  obtain ⟨l0, lr, rfl⟩ : ∃ l0 lr, loud = l0 :: lr := by
    cases loud with
    | nil => cases hc3
    | cons l0 lr => exact ⟨l0, lr, rfl⟩
  simp only [List.all_eq_true, List.mem_range, Bool.or_eq_true] at hc3
  have hbefore : ∀ (T : Tab), True := fun _ => trivial
  clear hbefore
  have hlt : ∀ k l, (l0 :: lr)[k]? = some l → l < ops.size := fun k l h => Nat.lt_of_lt_of_le (Nat.le_of_ble_eq_true (hc1 l (List.mem_of_getElem? h))) (Nat.le_refl _)
  refine W_inv T (fun D vs w' => (∀ j, j < ops.size → D j = true → vp VP j (vs j)) ∧ (∀ k a b, (l0 :: lr)[k]? = some a → (l0 :: lr)[k + 1]? = some b → D b = true → D a = true) ∧ Phase WP LP (l0 :: lr) w ops.size pureL D vs w') hm hT ?_ ?_ ?_
  · exact ⟨(fun _ _ h => by cases h), (fun _ _ _ _ _ h => by cases h), .inl ⟨fun _ _ => rfl, Ch.refl _ _, (fun _ _ _ h => by cases h)⟩⟩
  · rintro i hi D vs w' hDi hanc hdesc ⟨hV, hpre, hP⟩
    have hob := hop.get hi
    have hVa : ∀ j, has (T.anc i) j = true → j < ops.size → vp VP j (vs j) := fun j hj hjl => hV j hjl (hanc j (has_iff.1 hj)).2
    have hal : ∀ j ∈ T.anc i, j < ops.size := fun j hj => (hanc j hj).1
    have hVa' : ∀ j, has (T.anc i) j = true → vp VP j (vs j) := fun j hj => hVa j hj (hal j (has_iff.1 hj))
    have hV' : ∀ v, vp VP i v → ∀ j, j < ops.size → upD D i j = true → vp VP j (upV vs i v j) := by
      intro v hv j hj hd
      by_cases e : j = i
      · subst e; simpa [upV] using hv
      · simp only [upD, if_neg e] at hd
        simpa [upV, e] using hV j hj hd
    unfold Ob at hob
    cases hp : has pureL i with
    | true =>
      rw [hp] at hob
      simp only [cond_true] at hob
      have hnl : i ∉ (l0 :: lr) := fun hm => by
        have h1 := hc4 i (has_iff.1 hp)
        rw [has_iff.2 hm] at h1
        cases h1
      refine (hob vs w' hVa').mono ?_
      rintro v w'' ⟨hv, rfl⟩
      have hne : ∀ l ∈ (l0 :: lr), l ≠ i := fun l hl e => hnl (e ▸ hl)
      refine ⟨hV' v hv, ?_, ?_⟩
      · intro k a b ha hb hd
        have hb' := hne b (List.mem_of_getElem? hb)
        have ha' := hne a (List.mem_of_getElem? ha)
        simp only [upD, if_neg hb', if_neg ha'] at hd ⊢
        exact hpre k a b ha hb hd
      · rcases hP with ⟨h1, h2, h3⟩ | ⟨k, l, h1, h2, h3, h4⟩
        · refine .inl ⟨fun l hl => by simp only [upD, if_neg (hne l hl)]; exact h1 l hl, h2, fun j hj hjp hd => ?_⟩
          have e : j ≠ i := fun e => by subst e; rw [hp] at hjp; cases hjp
          simp only [upD, if_neg e] at hd
          simpa [upV, e] using h3 j hj hjp hd
        · have hl := hne l (List.mem_of_getElem? h1)
          refine .inr ⟨k, l, h1, by simp only [upD, if_neg hl]; exact h2, fun l' hl' => by simp only [upD, if_neg (hne l' (List.mem_of_getElem? hl'))]; exact h3 l' hl', by simpa [upV, hl] using h4⟩
    | false =>
      rw [hp] at hob
      simp only [cond_false] at hob
      cases hx : idx (l0 :: lr) i with
      | none =>
        rw [hx] at hob
        simp only at hob
        have hnl := idx_none hx
        have hne : ∀ l ∈ (l0 :: lr), l ≠ i := fun l hl e => hnl (e ▸ hl)
        have hil0 : i ∈ T.anc l0 := by
          rcases hc3 i hi with (h | h) | h
          · rw [hp] at h; cases h
          · exact absurd (has_iff.1 h) hnl
          · exact has_iff.1 h
        have hl0 : D l0 = false := hdesc l0 (hlt 0 l0 rfl) hil0
        rcases hP with ⟨h1, h2, h3⟩ | ⟨k, l, h1, h2, h3, h4⟩
        · refine (hob vs w' h2 (fun j hj => ⟨hVa' j hj, fun hjp => h3 j (hal j (has_iff.1 hj)) hjp (hanc j (has_iff.1 hj)).2⟩)).mono ?_
          rintro v w'' ⟨hv, hw, hc⟩
          refine ⟨hV' v hv, ?_, .inl ⟨fun l hl => by simp only [upD, if_neg (hne l hl)]; exact h1 l hl, h2.trans hc (fun _ _ h => h), fun j hj hjp hd => ?_⟩⟩
          · intro k a b ha hb hd
            have hb' := hne b (List.mem_of_getElem? hb)
            have ha' := hne a (List.mem_of_getElem? ha)
            simp only [upD, if_neg hb', if_neg ha'] at hd ⊢
            exact hpre k a b ha hb hd
          · by_cases e : j = i
            · subst e; simpa [upV] using hw
            · simp only [upD, if_neg e] at hd
              simp only [upV, if_neg e]
              exact hstab.get j _ _ _ (h3 j hj hjp hd) hc
        · exfalso
          -- the first writer is done
          have hfirst : ∀ (k l : Nat), (l0 :: lr)[k]? = some l → D l = true → D l0 = true := by
            intro k
            induction k with
            | zero => intro l h hd; simp at h; subst h; exact hd
            | succ k ih =>
              intro l h hd
              have hk : k < (l0 :: lr).length := by have := (List.getElem?_eq_some_iff.1 h).1; omega
              have ha : (l0 :: lr)[k]? = some (l0 :: lr)[k] := List.getElem?_eq_getElem hk
              exact ih _ ha (hpre k _ _ ha h hd)
          rw [hfirst k l h1 h2] at hl0
          cases hl0
      | some k =>
        have hik := idx_some hx
        have hnext : ∀ (l' : Nat), (l0 :: lr)[k + 1]? = some l' → D l' = false := fun l' hl' => hdesc l' (hlt _ _ hl') (chain_prev hc2 hik hl')
        have hinj : ∀ (k1 k2 l : Nat), (l0 :: lr)[k1]? = some l → (l0 :: lr)[k2]? = some l → k1 = k2 := by
          intro k1 k2 l h1 h2
          have hk1 := (List.getElem?_eq_some_iff.1 h1)
          have hk2 := (List.getElem?_eq_some_iff.1 h2)
          obtain ⟨a1, b1⟩ := hk1
          obtain ⟨a2, b2⟩ := hk2
          exact (List.getElem_inj hnd).1 (b1.trans b2.symm)
        -- what is done behind it
        have hpre' : ∀ (kk a b : Nat), (l0 :: lr)[kk]? = some a → (l0 :: lr)[kk + 1]? = some b → upD D i b = true → upD D i a = true := by
          intro kk a b ha hb hd
          by_cases ea : a = i
          · simp [upD, ea]
          · simp only [upD, if_neg ea]
            by_cases eb : b = i
            · subst eb
              exact (hanc a (chain_prev hc2 ha hb)).2
            · simp only [upD, if_neg eb] at hd
              exact hpre kk a b ha hb hd
        have hafter : ∀ (kk : Nat) (l : Nat), (l0 :: lr)[kk]? = some l → D l = true → kk < k := by
          intro kk l hl hd
          rcases Nat.lt_or_ge kk k with h | h
          · exact h
          · exfalso
            have : ∀ (d l : Nat), (l0 :: lr)[k + d]? = some l → D l = true → False := by
              intro d
              induction d with
              | zero =>
                intro l h1 h2
                rw [Nat.add_zero, hik] at h1
                cases h1
                rw [hDi] at h2
                cases h2
              | succ d ih =>
                intro l h1 h2
                have hk : k + d < (l0 :: lr).length := by have := (List.getElem?_eq_some_iff.1 h1).1; omega
                have ha : (l0 :: lr)[k + d]? = some (l0 :: lr)[k + d] := List.getElem?_eq_getElem hk
                exact ih _ ha (hpre (k + d) _ _ ha h1 h2)
            exact this (kk - k) l (by rw [show k + (kk - k) = kk by omega]; exact hl) hd
        have hdone : ∀ v w'', wp_ LP k v w'' → Phase WP LP (l0 :: lr) w ops.size pureL (upD D i) (upV vs i v) w'' := fun v w'' hv =>
          .inr ⟨k, i, hik, by simp [upD], fun l' hl' => by
            have e : l' ≠ i := fun e => by subst e; have := hinj _ _ _ hik hl'; omega
            simp only [upD, if_neg e]; exact hnext l' hl', by simpa [upV] using hv⟩
        cases k with
        | zero =>
          rw [hx] at hob
          simp only at hob
          rcases hP with ⟨h1, h2, h3⟩ | ⟨kk, l, h1, h2, h3, h4⟩
          · refine (hob vs w' h2 (fun j hj => ⟨hVa' j hj, fun hjp => h3 j (hal j (has_iff.1 hj)) hjp (hanc j (has_iff.1 hj)).2⟩)).mono ?_
            rintro v w'' ⟨hv, hw⟩
            exact ⟨hV' v hv, hpre', hdone v w'' hw⟩
          · have := hafter kk l h1 h2
            omega
        | succ k =>
          rw [hx] at hob
          simp only at hob
          have hkl : k < (l0 :: lr).length := by have := (List.getElem?_eq_some_iff.1 hik).1; omega
          have hpk : (l0 :: lr)[k]? = some (l0 :: lr)[k] := List.getElem?_eq_getElem hkl
          have hpd := (hanc _ (chain_prev hc2 hpk hik)).2
          rcases hP with ⟨h1, h2, h3⟩ | ⟨kk, l, h1, h2, h3, h4⟩
          · rw [h1 _ (List.getElem_mem hkl)] at hpd
            cases hpd
          · have hkk : kk = k := by
              have h5 := hafter kk l h1 h2
              rcases Nat.lt_or_ge kk k with h6 | h6
              · exfalso
                have hl1 : kk + 1 < (l0 :: lr).length := by omega
                have h7 := h3 _ (List.getElem?_eq_getElem hl1)
                -- it is done, as all ahead of number k are
                have hall : ∀ (d x : Nat), d ≤ k → (l0 :: lr)[k - d]? = some x → D x = true := by
                  intro d
                  induction d with
                  | zero => intro x _ hx1; rw [Nat.sub_zero, hpk] at hx1; cases hx1; exact hpd
                  | succ d ih =>
                    intro x hd1 hx1
                    have hkd : k - d < (l0 :: lr).length := by omega
                    exact hpre (k - (d + 1)) x _ hx1 (by rw [show k - (d + 1) + 1 = k - d by omega]; exact List.getElem?_eq_getElem hkd) (ih _ (by omega) (List.getElem?_eq_getElem hkd))
                rw [hall (k - (kk + 1)) _ (by omega) (by rw [show k - (k - (kk + 1)) = kk + 1 by omega]; exact List.getElem?_eq_getElem hl1)] at h7
                cases h7
              · omega
            subst hkk
            rw [hpk] at h1
            cases h1
            refine (hob vs w' hVa' (by rw [List.getD_eq_getElem?_getD, hpk]; exact h4)).mono ?_
            rintro v w'' ⟨hv, hw⟩
            exact ⟨hV' v hv, hpre', hdone v w'' hw⟩
  · rintro D vs w' hall ⟨hV, hpre, hP⟩
    refine hend vs w' (fun j hj => hV j hj (hall j hj)) ?_
    rcases hP with ⟨h1, _⟩ | ⟨k, l, h1, h2, h3, h4⟩
    · have := h1 l0 List.mem_cons_self
      rw [hall l0 (hlt 0 l0 rfl)] at this
      cases this
    · have hk : k = (l0 :: lr).length - 1 := by
        have hk1 := (List.getElem?_eq_some_iff.1 h1).1
        rcases Nat.lt_or_ge (k + 1) (l0 :: lr).length with h | h
        · exfalso
          have h7 := h3 _ (List.getElem?_eq_getElem h)
          rw [hall _ (hlt _ _ (List.getElem?_eq_getElem h))] at h7
          cases h7
        · omega
      subst hk
      rw [List.getD_eq_getElem?_getD, h1]
      exact h4

theorem One_pureT {i : Nat} {v : Value} {VPi : Value → Prop} (h : pureOf P ops L i = some v) (hv : VPi v) : One P n ops Q i L w (fun u w' => VPi u ∧ w' = w) := One_pure h ⟨hv, rfl⟩
theorem One_callST {i : Nat} {f : FuncId} {VPi : Value → Prop} {WPi : Value → World → Prop} (x : Op × TypeId) (args : Array Value) (v : Value) (hx : opOf ops L i = some x) (hr : pureRun P (ex L x) = some (.enter f args))
    (hc : Calls P f args w fun e w' => e = .returned v ∧ w = w') (hv : VPi v) (hw : WPi v w) : One P n ops Q i L w (fun u w' => VPi u ∧ WPi u w' ∧ Ch No w w') :=
  One_call hx hr hc (fun _ _ hR => ⟨v, hR.1, hv, by rw [← hR.2]; exact hw, by rw [← hR.2]; exact Ch.refl _ _⟩)
theorem One_callBT {i : Nat} {f : FuncId} {VPi : Value → Prop} {WPi : Value → World → Prop} (x : Op × TypeId) (args : Array Value) (v : Value) (hx : opOf ops L i = some x) (hr : pureRun P (ex L x) = some (.enter f args))
    (hc : Calls P f args w fun e w' => e = .returned v ∧ Below w.heap.size w w') (hv : VPi v) (hw : ∀ w', WPi v w') : One P n ops Q i L w (fun u w' => VPi u ∧ WPi u w' ∧ Ch No w w') :=
  One_call hx hr hc (fun _ _ hR => ⟨v, hR.1, hv, hw _, Ch.of_below hR.2⟩)
/-- A new object in a region of open order: where it lies, and what it holds. -/
def NewAt (wd : World) (mk : Nat → Value) (t : TypeId) (cs : List Value) : Value → World → Prop := fun v w => ∃ g, v = mk g ∧ wd.heap.size ≤ g ∧ (Blk g t cs).P w
theorem NewAt.stab {wd : World} {mk : Nat → Value} {t : TypeId} {cs : List Value} : ∀ v w w', NewAt wd mk t cs v w → Ch No w w' → NewAt wd mk t cs v w' := by
  rintro v w w' ⟨g, e, hg, hb⟩ hc
  refine ⟨g, e, hg, (Blk g t cs).loc w w' (fun b hb' => hc.block b ?_ id) hb⟩
  have hb'' : b = g := hb'
  subst hb''
  exact (Array.getElem?_eq_some_iff.1 (show w.heap[b]? = _ from hb)).1
theorem One_newT {i : Nat} {x : Op × TypeId} {t : TypeId} {cs : List Value} {mk : Nat → Value} {VPi : Value → Prop} {wd : World} (hx : opOf ops L i = some x) (hn : ∀ r, newRun P r (ex L x) = some (.cells cs.toArray t (0, 0), .value (mk r))) (hr : Ch No wd w) (hv : ∀ g, VPi (mk g)) :
    One P n ops Q i L w (fun u w' => VPi u ∧ NewAt wd mk t cs u w' ∧ Ch No w w') :=
  One_run hx (newRun_run (hn w.heap.size) rfl) ⟨hv _, ⟨_, rfl, hr.size, heap_alloc_new w _⟩, Ch.alloc _ _⟩
/-- Nothing is said. -/
def Any : Value → Prop := fun _ => True
def AnyW : Value → World → Prop := fun _ _ => True
theorem AnyW.stab {Rl : World → World → Prop} : ∀ v w w', AnyW v w → Rl w w' → AnyW v w' := fun _ _ _ _ _ => trivial
theorem Blk.news {g : Nat} {t : TypeId} {cs : List Value} (h : (Blk g t cs).P w) : ∀ j u, cs[j]? = some u → w.cell? ((⟨g, 0, none⟩ : Addr).add j) = some u := fun j u hj => by
  rw [Addr.add_lit, Nat.zero_add]
  exact Blk.cell h hj

variable {U : Nat → Prop} {w0 : World} {H : List Ck}
theorem One_storeRowA {i c g o m cap : Nat} {e t ty : TypeId} {sz : Nat} {x y : Operand} {A : Option Addr} {cs : List Value} {v : Value} {Post : Value → World → Prop} (hx : opOf ops L i = some (.store t x y, ty)) (ha : L.ev x = .pointer (some ⟨g, o, none⟩)) (hv : L.ev y = v)
    (hS : St U w0 w H) (hA : A = some ⟨g, 0, none⟩) (hc : H[c]? = some (Row e sz (.slice A m cap) m cs)) (hs : pureRun P (sizeOf t) = some v.cells.size) (ho : o + v.cells.size ≤ cs.length) (h1 : v.cells.toList.all (·.oneCell') = true)
    (hp : ∀ w', St U w0 w' (H.set c (Row e sz (.slice A m cap) m (splice cs o v.cells.toList))) → Ch (fun b => b = g) w w' → Post undef w') : One P n ops Q i L w Post := by
  subst hA
  exact One_storeRow hx ha hv hS hc hs ho h1 hp
theorem St.one {c : Ck} (hp : c.P w) (hf : ∀ b, c.F b → b < w.heap.size) : St c.F w w [c] :=
  ⟨Ch.refl _ _, fun d hd => by rw [List.mem_singleton.1 hd]; exact hp, fun d hd b hb => by rw [List.mem_singleton.1 hd] at hb; exact ⟨hf b hb, .inl hb⟩, List.pairwise_singleton _ _⟩
theorem St.fresh {w' : World} (h : St No w w' H) {i : Nat} {c : Ck} (hi : H[i]? = some c) : ∀ b, c.F b → w.heap.size ≤ b ∧ b < w'.heap.size := fun b hb => by
  obtain ⟨h1, h2⟩ := h.foot c (List.mem_of_getElem? hi) b hb
  exact ⟨h2.resolve_left id, h1⟩
theorem Row.lt {e : TypeId} {sz m : Nat} {v : Value} {cs : List Value} (h : (Row e sz v m cs).P w) : ∀ b, (Row e sz v m cs).F b → b < w.heap.size := by
  intro b hb
  have hb' : v.ownBlock = some b := hb
  obtain ⟨_, ⟨rfl, _⟩ | ⟨g, cap, cur, rfl, _, hh, _⟩⟩ := h
  · cases hb'
  · have : g = b := by simpa [Value.ownBlock] using hb'
    subst this
    exact (Array.getElem?_eq_some_iff.1 hh).1
theorem run_loadOne {t : TypeId} {a : Addr} {v : Value} (ht : pureRun P (isAgg t) = some true) (hs : pureRun P (sizeOf t) = some 1) (hc : w.cell? a = some v) : (loadVar t a).run P w = .ok (.agg #[v]) w := by
  have h := run_loadN (P := P) (w := w) (t := t) (a := a) (cs := [v]) ht hs (fun j x hj => by
    cases j with
    | zero => simp at hj; subst hj; exact hc
    | succ j => simp at hj)
  exact h
end Go.Arr
