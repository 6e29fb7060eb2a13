/- THE ENGINE, part 3: a region whose order is open, each operation shown once; stores, new objects, appends. Nothing of a program stands here. -/
import Derived.Test.YtfgfoocmiflnmaaMyE2
import Derived.Laws.CopyRow
import Derived.OwnWalk
namespace Go.Arr
open Go.RowKit
variable {P : Program} {n : Nat} {ops : Array Oper} {Q : Exit → Act → World → Prop} {w : World} {L : Env}

/-! ### a region whose order is open -/
abbrev Tab := List (List Nat × List Nat)
def Tab.anc (T : Tab) (i : Nat) : List Nat := (T.getD i ([], [])).1
def Tab.keys (T : Tab) (i : Nat) : List Nat := (T.getD i ([], [])).2
def prune (keys : List Nat) (L : Env) : Env := keys.filterMap fun k => (L.get k).map fun v => (k, v)
def envAt (ops : Array Oper) (T : Tab) (L : Env) (vs : Nat → Value) (i : Nat) : Env := ((T.anc i).filterMap fun j => (dstOf ops j).map fun d => (d, vs j)) ++ prune (T.keys i) L
def has (l : List Nat) (j : Nat) : Bool := l.any fun x => Nat.beq x j
def sameDst (a b : Option Nat) : Bool := match a, b with | some x, some y => Nat.beq x y | _, _ => false
/-- The table is sound: what it calls earlier is so by the edges; each slot is written once; a slot that is kept from before is written by nothing that may come earlier. Number 'ops.size' is the end. -/
def okT (n : Nat) (ops : Array Oper) (T : Tab) : Bool :=
  let m := ops.size
  ((List.range m).all fun i => match ops[i]? with
    | none => false
    | some o =>
      dstOk n ops i &&
      (o.after.toList.all fun e => !Region.binds .any e || Nat.blt e.on i) &&
      ((T.anc i).all fun j => o.after.toList.any fun e => Region.binds .any e && (Nat.beq e.on j || has (T.anc e.on) j)) &&
      ((T.keys i).all fun k => (List.range m).all fun j => !sameDst (dstOf ops j) (some k) || Nat.beq j i || has (T.anc j) i) &&
      ((List.range m).all fun j => Nat.beq j i || !sameDst (dstOf ops j) (dstOf ops i))) &&
  ((T.keys m).all fun k => (List.range m).all fun j => !sameDst (dstOf ops j) (some k)) && ((T.anc m).all fun j => Nat.blt j m)

theorem has_iff {l : List Nat} {j : Nat} : has l j = true ↔ j ∈ l := by
  simp [has, List.any_eq_true]
theorem sameDst_iff {a b : Option Nat} : sameDst a b = true ↔ ∃ x, a = some x ∧ b = some x := by
  cases a with
  | none => simp [sameDst]
  | some x =>
    cases b with
    | none => simp [sameDst]
    | some y =>
      refine ⟨fun h => ⟨x, rfl, by rw [Nat.eq_of_beq_eq_true h]⟩, ?_⟩
      rintro ⟨z, hx, hy⟩
      cases hx
      cases hy
      exact Nat.beq_refl _
theorem Env.get_mem : ∀ {L : Env} {t : Nat} {v : Value}, L.get t = some v → (t, v) ∈ L
  | [], _, _, h => by simp [Env.get] at h
  | (k, u) :: r, t, v, h => by
    rw [Env.get_put] at h
    by_cases e : k = t
    · subst e
      simp only [if_true, Option.some.injEq] at h
      subst h
      exact List.mem_cons_self
    · rw [if_neg e] at h
      exact List.mem_cons_of_mem _ (Env.get_mem h)

def AllBelow (p : Nat → Prop) : Nat → Prop
  | 0 => True
  | m + 1 => AllBelow p m ∧ p m
theorem AllBelow.get {p : Nat → Prop} : ∀ {m i : Nat}, AllBelow p m → i < m → p i
  | m + 1, i, h, hi => by
    rcases Nat.lt_or_ge i m with hlt | hge
    · exact h.1.get hlt
    · have : i = m := by omega
      subst this
      exact h.2

structure Inv (n : Nat) (ops : Array Oper) (T : Tab) (L : Env) (Rl : World → World → Prop) (Post : Nat → Value → World → Prop) (w0 : World) (listed : Array Bool) (a : Act) (w : World) (vs : Nat → Value) : Prop where
  len : listed.size = ops.size
  closed : ∀ i, i < ops.size → listed.getD i false = true → ∀ j ∈ T.anc i, j < ops.size ∧ listed.getD j false = true
  defers : a.defers = []
  size : a.tmps.size = n
  rel : Rl w0 w
  posts : ∀ i, i < ops.size → listed.getD i false = true → Post i (vs i) w ∧ ∀ d, dstOf ops i = some d → a.tmps[d]? = some (vs i)
  base : ∀ t v, L.get t = some v → (∀ i, i < ops.size → listed.getD i false = true → dstOf ops i ≠ some t) → a.tmps[t]? = some v

theorem W_draw {id : Nat} (T : Tab) (Rl : World → World → Prop) (Post : Nat → Value → World → Prop) (hm : P.follows .mixedOrders = true) (hT : okT n ops T = true)
    (hrefl : ∀ w, Rl w w) (htrans : ∀ {a b c}, Rl a b → Rl b c → Rl a c) (hstab : ∀ i v w w', Post i v w → Rl w w' → Post i v w')
    (hop : AllBelow (fun i => ∀ vs w', Rl w.drew w' → (∀ j, has (T.anc i) j = true → Post j (vs j) w') → One P n ops Q i (envAt ops T L vs i) w' (fun v w'' => Post i v w'' ∧ Rl w' w'')) ops.size)
    (hend : ∀ vs w', Rl w.drew w' → (∀ j, j < ops.size → Post j (vs j) w') → WO P n ops [] (envAt ops T L vs ops.size) Q w') : W P n L (.region id ops true) Q w := by
  intro a0 ha0
  simp only [okT, Bool.and_eq_true, List.all_eq_true, List.mem_range] at hT
  obtain ⟨⟨hT1, hT2⟩, hT3⟩ := hT
  have hrow : ∀ i, i < ops.size → ∃ o, ops[i]? = some o ∧ dstOk n ops i = true ∧ (∀ e ∈ o.after.toList, Region.binds .any e = true → e.on < i) ∧
      (∀ j ∈ T.anc i, ∃ e ∈ o.after.toList, Region.binds .any e = true ∧ (e.on = j ∨ j ∈ T.anc e.on)) ∧
      (∀ k ∈ T.keys i, ∀ j, j < ops.size → dstOf ops j = some k → j = i ∨ i ∈ T.anc j) ∧ (∀ j, j < ops.size → ∀ d, dstOf ops j = some d → dstOf ops i = some d → j = i) := by
    intro i hi
    have h := hT1 i hi
    cases ho : ops[i]? with
    | none => rw [ho] at h; cases h
    | some o =>
      rw [ho] at h
      simp only [Bool.and_eq_true, List.all_eq_true, List.mem_range, Bool.or_eq_true, Bool.not_eq_true', List.any_eq_true] at h
      obtain ⟨⟨⟨⟨h1, h2⟩, h3⟩, h4⟩, h5⟩ := h
      refine ⟨o, rfl, h1, fun e he hb => ?_, fun j hj => ?_, fun k hk j hj hd => ?_, fun j hj d hd hdi => ?_⟩
      · rcases h2 e he with h | h
        · rw [hb] at h; cases h
        · exact Nat.lt_of_lt_of_le (Nat.le_of_ble_eq_true h) (Nat.le_refl _)
      · obtain ⟨e, he, hb, h⟩ := h3 j hj
        refine ⟨e, he, hb, ?_⟩
        rcases h with h | h
        · exact .inl (Nat.eq_of_beq_eq_true h)
        · exact .inr (has_iff.1 h)
      · rcases h4 k hk j hj with (h | h) | h
        · have : sameDst (dstOf ops j) (some k) = true := sameDst_iff.2 ⟨k, hd, rfl⟩
          rw [this] at h; cases h
        · exact .inl (Nat.eq_of_beq_eq_true h)
        · exact .inr (has_iff.1 h)
      · rcases h5 j hj with h | h
        · exact Nat.eq_of_beq_eq_true h
        · have : sameDst (dstOf ops j) (dstOf ops i) = true := sameDst_iff.2 ⟨d, hd, hdi⟩
          rw [this] at h; cases h
  have hend2 : ∀ k ∈ T.keys ops.size, ∀ j, j < ops.size → dstOf ops j ≠ some k := by
    intro k hk j hj hd
    have h := hT2 k hk j hj
    have h2 : sameDst (dstOf ops j) (some k) = true := sameDst_iff.2 ⟨k, hd, rfl⟩
    rw [h2] at h
    cases h
  have hend3 : ∀ j ∈ T.anc ops.size, j < ops.size := fun j hj => Nat.lt_of_lt_of_le (Nat.le_of_ble_eq_true (hT3 j hj)) (Nat.le_refl _)
  -- the frame at operation i (or at the end)
  have hfr : ∀ {listed a w vs} (_ : Inv n ops T L Rl Post w.drew listed a w vs) (i : Nat), True := fun _ _ => trivial
  clear hfr
  have frame : ∀ {listed : Array Bool} {a : Act} {w' : World} {vs : Nat → Value} (hI : Inv n ops T L Rl Post w.drew listed a w' vs) (i : Nat), (∀ j ∈ T.anc i, j < ops.size ∧ listed.getD j false = true) →
      (∀ k ∈ T.keys i, ∀ j, j < ops.size → listed.getD j false = true → dstOf ops j ≠ some k) → Fr n (envAt ops T L vs i) a := by
    intro listed a w' vs hI i hanc hkeys
    refine ⟨hI.defers, hI.size, fun t v hv => ?_⟩
    have hmem := Env.get_mem hv
    rcases List.mem_append.1 hmem with h | h
    · obtain ⟨j, hj, he⟩ := List.mem_filterMap.1 h
      obtain ⟨hjl, hjd⟩ := hanc j hj
      cases hd : dstOf ops j with
      | none => rw [hd] at he; cases he
      | some d =>
        rw [hd] at he
        simp only [Option.map_some, Option.some.injEq, Prod.mk.injEq] at he
        obtain ⟨rfl, rfl⟩ := he
        exact (hI.posts j hjl hjd).2 d hd
    · obtain ⟨k, hk, he⟩ := List.mem_filterMap.1 h
      cases hg : L.get k with
      | none => rw [hg] at he; cases he
      | some u =>
        rw [hg] at he
        simp only [Option.map_some, Option.some.injEq, Prod.mk.injEq] at he
        obtain ⟨rfl, rfl⟩ := he
        exact hI.base k u hg (fun j hj hl => hkeys k hk j hj hl)
  have key : ∀ (fuel : Nat) (listed : Array Bool) (a : Act) (w' : World) (vs : Nat → Value), Inv n ops T L Rl Post w.drew listed a w' vs → ((List.range ops.size).filter fun i => !listed.getD i false).length ≤ fuel → wpAny P .any ops Q fuel listed a w' := by
    intro fuel
    have hnone : ∀ (listed : Array Bool), listed.size = ops.size → Region.ready .any ops listed = [] → ∀ i, i < ops.size → listed.getD i false = true := by
      intro listed hlen hr i
      induction i using Nat.strongRecOn with
      | _ i ih =>
        intro hi
        rcases Bool.eq_false_or_eq_true (listed.getD i false) with h | h
        · exact h
        · exfalso
          have hin : i ∈ Region.ready .any ops listed := by
            obtain ⟨o, ho, _, hlt, _⟩ := hrow i hi
            refine List.mem_filter.2 ⟨List.mem_range.2 hi, ?_⟩
            have hg : listed.getD i true = false := by
              have hil : i < listed.size := by omega
              simp only [Array.getD, hil, dite_true] at h ⊢
              exact h
            simp only [hg, Bool.not_false, Bool.true_and, ho, Option.map_some, Option.getD_some]
            rw [Array.all_eq_true']
            intro e he
            have he' := Array.mem_toList_iff.2 he
            cases hb : Region.binds .any e with
            | false => simp
            | true =>
              have := hlt e he' hb
              simp only [Bool.not_true, Bool.false_or]
              exact ih e.on this (by omega)
          rw [hr] at hin
          cases hin
    have done : ∀ (listed : Array Bool) (a : Act) (w' : World) (vs : Nat → Value), Inv n ops T L Rl Post w.drew listed a w' vs → Region.ready .any ops listed = [] → Q .normal a w' := by
      intro listed a w' vs hI hr
      have hall := hnone listed hI.len hr
      have hw := hend vs w' hI.rel (fun j hj => (hI.posts j hj (hall j hj)).1)
      have hf := frame hI ops.size (fun j hj => ⟨hend3 j hj, hall j (hend3 j hj)⟩) (fun k hk j hj _ => hend2 k hk j hj)
      exact hw a hf
    induction fuel with
    | zero =>
      intro listed a w' vs hI hc
      have hr : Region.ready .any ops listed = [] := by
        rw [List.eq_nil_iff_forall_not_mem]
        intro i hi
        obtain ⟨hi1, hi2⟩ := List.mem_filter.1 hi
        have : i ∈ (List.range ops.size).filter fun i => !listed.getD i false := by
          refine List.mem_filter.2 ⟨hi1, ?_⟩
          simp only [Bool.and_eq_true, Bool.not_eq_true'] at hi2
          have hil : i < listed.size := by rw [hI.len]; exact List.mem_range.1 hi1
          have h2 := hi2.1
          rw [Array.getD_eq_getD_getElem?, Array.getElem?_eq_getElem hil] at h2 ⊢
          simpa using h2
        have h0 : ((List.range ops.size).filter fun i => !listed.getD i false) = [] := List.length_eq_zero_iff.1 (by omega)
        rw [h0] at this
        cases this
      exact ⟨hr, done listed a w' vs hI hr⟩
    | succ fuel ih =>
      intro listed a w' vs hI hc
      refine ⟨fun hr => done listed a w' vs hI hr, fun i hi => ?_⟩
      obtain ⟨hi1, hi2⟩ := List.mem_filter.1 hi
      have hil : i < ops.size := List.mem_range.1 hi1
      obtain ⟨o, ho, hdst, hlt, hanc, hkeys, huniq⟩ := hrow i hil
      simp only [Bool.and_eq_true, Bool.not_eq_true', ho, Option.map_some, Option.getD_some] at hi2
      obtain ⟨hnot, hpre⟩ := hi2
      have hnot' : listed.getD i false = false := by
        have hill : i < listed.size := by rw [hI.len]; exact hil
        simp only [Array.getD, hill, dite_true] at hnot ⊢
        exact hnot
      have hpre' : ∀ e ∈ o.after.toList, Region.binds .any e = true → listed.getD e.on false = true := by
        intro e he hb
        have := Array.all_eq_true'.1 hpre e (Array.mem_toList_iff.1 he)
        simpa [hb] using this
      have hancl : ∀ j ∈ T.anc i, j < ops.size ∧ listed.getD j false = true := by
        intro j hj
        obtain ⟨e, he, hb, h⟩ := hanc j hj
        have hon : e.on < ops.size := by have := hlt e he hb; omega
        have hl := hpre' e he hb
        rcases h with rfl | h
        · exact ⟨hon, hl⟩
        · exact hI.closed e.on hon hl j h
      have hf := frame hI i hancl (fun k hk j hj hl hd => by
        rcases hkeys k hk j hj hd with rfl | h
        · rw [hnot'] at hl; cases hl
        · have := (hI.closed j hj hl i h).2
          rw [hnot'] at this; cases this)
      have hone := (hop.get hil) vs w' hI.rel (fun j hj => (hI.posts j (hancl j (has_iff.1 hj)).1 (hancl j (has_iff.1 hj)).2).1)
      refine hone a hf _ fun v w'' ⟨hp, hr⟩ => ?_
      refine ih _ _ _ (fun j => if j = i then v else vs j) ⟨by simp [hI.len], ?_, ?_, ?_, htrans hI.rel hr, ?_, ?_⟩ ?_
      · intro j hj hl k hk
        by_cases hji : j = i
        · subst hji
          obtain ⟨h1, h2⟩ := hancl k hk
          refine ⟨h1, ?_⟩
          by_cases hkj : k = j
          · subst hkj; rw [hnot'] at h2; cases h2
          · rw [Array.getD_eq_getD_getElem?, Array.getElem?_setIfInBounds_ne (Ne.symm hkj), ← Array.getD_eq_getD_getElem?]; exact h2
        · rw [Array.getD_eq_getD_getElem?, Array.getElem?_setIfInBounds_ne (Ne.symm hji), ← Array.getD_eq_getD_getElem?] at hl
          obtain ⟨h1, h2⟩ := hI.closed j hj hl k hk
          refine ⟨h1, ?_⟩
          by_cases hki : k = i
          · subst hki; rw [hnot'] at h2; cases h2
          · rw [Array.getD_eq_getD_getElem?, Array.getElem?_setIfInBounds_ne (Ne.symm hki), ← Array.getD_eq_getD_getElem?]; exact h2
      · cases dstOf ops i <;> exact hI.defers
      · have := hI.size
        cases dstOf ops i with
        | none => exact this
        | some d => simp [Act.put, this]
      · intro j hj hl
        by_cases hji : j = i
        · subst hji
          simp only [if_true]
          refine ⟨hp, fun d hd => ?_⟩
          rw [hd]
          simp only [Act.put]
          have hdn : d < n := by
            unfold dstOk at hdst
            rw [hd] at hdst
            exact Nat.lt_of_lt_of_le (Nat.le_of_ble_eq_true hdst) (Nat.le_refl _)
          rw [Array.getElem?_setIfInBounds_self]
          simp [hI.size, hdn]
        · simp only [if_neg hji]
          rw [Array.getD_eq_getD_getElem?, Array.getElem?_setIfInBounds_ne (Ne.symm hji), ← Array.getD_eq_getD_getElem?] at hl
          obtain ⟨h1, h2⟩ := hI.posts j hj hl
          refine ⟨hstab j _ _ _ h1 hr, fun d hd => ?_⟩
          cases hdi : dstOf ops i with
          | none => exact h2 d hd
          | some d' =>
            simp only [Act.put]
            have hne : d' ≠ d := by
              rintro rfl
              exact hji (huniq j hj d' hd hdi)
            rw [Array.getElem?_setIfInBounds_ne hne]
            exact h2 d hd
      · intro t u hu hno
        have hti : dstOf ops i ≠ some t := hno i hil (by rw [Array.getD_eq_getD_getElem?, Array.getElem?_setIfInBounds_self]; simp [hI.len, hil])
        have hb := hI.base t u hu (fun j hj hl => hno j hj (by
          by_cases hji : j = i
          · subst hji; rw [hnot'] at hl; cases hl
          · rw [Array.getD_eq_getD_getElem?, Array.getElem?_setIfInBounds_ne (Ne.symm hji), ← Array.getD_eq_getD_getElem?]; exact hl))
        cases hdi : dstOf ops i with
        | none => exact hb
        | some d =>
          simp only [Act.put]
          rw [Array.getElem?_setIfInBounds_ne (fun e => hti (by rw [hdi, e]))]
          exact hb
      · have hin : i ∈ (List.range ops.size).filter fun j => !listed.getD j false := List.mem_filter.2 ⟨hi1, by simp [hnot']⟩
        have hsub : ((List.range ops.size).filter fun j => !(listed.setIfInBounds i true).getD j false).length < ((List.range ops.size).filter fun j => !listed.getD j false).length := by
          have he : ((List.range ops.size).filter fun j => !(listed.setIfInBounds i true).getD j false) = ((List.range ops.size).filter fun j => !listed.getD j false).filter fun j => !(j == i) := by
            rw [List.filter_filter]
            refine List.filter_congr fun j hj => ?_
            by_cases hji : j = i
            · subst hji
              rw [Array.getD_eq_getD_getElem?, Array.getElem?_setIfInBounds_self]
              simp [hI.len, hil]
            · rw [Array.getD_eq_getD_getElem?, Array.getElem?_setIfInBounds_ne (Ne.symm hji), ← Array.getD_eq_getD_getElem?]
              simp [hji]
          rw [he]
          refine List.length_filter_lt_length_iff_exists.2 ⟨i, hin, by simp⟩
        omega
  refine wp_region_any hm ?_
  refine key ops.size _ a0 w.drew (fun _ => undef) ⟨by simp, ?_, ha0.defers, ha0.size, hrefl _, ?_, fun t v hv _ => ha0.get t v hv⟩ ?_
  · intro i hi hl
    rw [Array.getD_eq_getD_getElem?] at hl
    simp [hi] at hl
  · intro i hi hl
    rw [Array.getD_eq_getD_getElem?] at hl
    simp [hi] at hl
  · refine Nat.le_trans (List.length_filter_le _ _) (by simp)
end Go.Arr
