/- THE ENGINE, part 1: code walked over a list of known slots. Nothing of a program stands here. -/
import Derived.Orders
import Derived.Scope
import Derived.Below
import Derived.KernelRfl
import Derived.Laws.Sem
namespace Go.Arr

abbrev Env := List (Nat × Value)

def Env.get : Env → Nat → Option Value
  | [], _ => none
  | (k, v) :: r, t => bif Nat.beq k t then some v else Env.get r t

def Env.ev (L : Env) : Operand → Value
  | .tmp t => (L.get t).getD undef
  | .const v => v
  | .global g => .pointer (some ⟨g, 0, none⟩)
  | .func f => .func (.func f) #[] #[]

def Env.has (L : Env) : Operand → Bool
  | .tmp t => (L.get t).isSome
  | _ => true

def Env.put (L : Env) : Option Nat → Value → Env
  | some d, v => (d, v) :: L
  | none, _ => L

structure Fr (n : Nat) (L : Env) (a : Act) : Prop where
  defers : a.defers = []
  size : a.tmps.size = n
  get : ∀ t v, L.get t = some v → a.tmps[t]? = some v

theorem Fr.mono {n : Nat} {L L' : Env} {a : Act} (h : Fr n L a) (hl : ∀ t v, L'.get t = some v → L.get t = some v) : Fr n L' a :=
  ⟨h.defers, h.size, fun t v hv => h.get t v (hl t v hv)⟩

/-- All of L' is so in L. -/
def Env.sub (L' L : Env) : Prop := ∀ t v, L'.get t = some v → L.get t = some v

theorem Env.sub_nil (L : Env) : Env.sub [] L := fun t v h => by simp [Env.get] at h
theorem Env.sub_cons {L' L : Env} {k : Nat} {v : Value} (h : L.get k = some v) (hs : Env.sub L' L) : Env.sub ((k, v) :: L') L := fun t u hu => by
  simp only [Env.get] at hu
  cases hb : Nat.beq k t with
  | true =>
    rw [hb] at hu
    have := Nat.eq_of_beq_eq_true hb
    subst this
    simp only [cond_true, Option.some.injEq] at hu
    rw [h, hu]
  | false => rw [hb] at hu; exact hs t u hu

theorem Env.get_put {L : Env} {d : Nat} {v : Value} {t : Nat} : Env.get ((d, v) :: L) t = if d = t then some v else L.get t := by
  simp only [Env.get]
  cases hb : Nat.beq d t with
  | true => have := Nat.eq_of_beq_eq_true hb; simp [this]
  | false => have := Nat.ne_of_beq_eq_false hb; simp [this]

theorem Fr.put {n : Nat} {L : Env} {a : Act} (h : Fr n L a) {d : Option Nat} (hd : ∀ t, d = some t → t < n) (v : Value) : Fr n (L.put d v) (a.put d v) := by
  cases d with
  | none => exact h
  | some d =>
    refine ⟨h.defers, by simp [Act.put, h.size], fun t u hu => ?_⟩
    rw [Env.put, Env.get_put] at hu
    simp only [Act.put]
    by_cases e : d = t
    · subst e
      simp only [if_true, Option.some.injEq] at hu
      subst hu
      rw [Array.getElem?_setIfInBounds_self]
      simp [h.size, hd d rfl]
    · rw [if_neg e] at hu
      rw [Array.getElem?_setIfInBounds_ne e]
      exact h.get t u hu

theorem Fr.eval {n : Nat} {L : Env} {a : Act} (h : Fr n L a) {x : Operand} (hx : L.has x = true) : a.eval x = L.ev x := by
  cases x with
  | tmp t =>
    simp only [Env.has, Option.isSome_iff_exists] at hx
    obtain ⟨v, hv⟩ := hx
    simp [Act.eval, Env.ev, hv, h.get t v hv]
  | _ => rfl

/-- No select: the operations that the congruence serves. -/
def noSelect : Op → Bool
  | .select .. => false
  | _ => true

def Env.hasAll (L : Env) (o : Oper) : Bool := noSelect o.op && o.op.operands.toList.all L.has

theorem Fr.exec {n : Nat} {L : Env} {a : Act} (h : Fr n L a) {o : Oper} (ho : L.hasAll o = true) : execOp a.eval o = execOp L.ev o := by
  simp only [Env.hasAll, Bool.and_eq_true] at ho
  refine execOp_congr o (fun cs b e => ?_) fun x hx => h.eval ?_
  · rw [e] at ho; simp [noSelect] at ho
  · exact List.all_eq_true.1 ho.2 x (Array.mem_toList_iff.2 hx)

/-! ### what runs without a world -/
def pureRun {α : Type} (P : Program) : Sem α → Option α
  | .pure a => some a
  | .program k => pureRun P (k P)
  | .mark _ k => pureRun P k
  | _ => none

theorem pureRun_run {α : Type} {P : Program} : ∀ {s : Sem α} {a : α}, pureRun P s = some a → ∀ w, s.run P w = .ok a w := by
  intro s
  induction s with
  | pure a => intro b h w; simp [pureRun] at h; subst h; rfl
  | program k ih => intro b h w; exact ih P h w
  | mark m k ih => intro b h w; exact ih h w
  | _ => intro b h; simp [pureRun] at h

/-! ### a region's operations, one by one -/
/-- What the guard says, by the known slots: none: it is not known. -/
def wantedL (ops : Array Oper) (L : Env) (o : Oper) : Option Bool :=
  match o.guard with
  | none => some true
  | some (j, want) =>
    match (ops[j]?).bind (·.dst) with
    | some d => match L.get d with
      | some (.bool b) => some (b == want)
      | some _ => some false
      | none => none
    | none => some false

theorem Fr.wanted {n : Nat} {L : Env} {a : Act} (h : Fr n L a) {ops : Array Oper} {o : Oper} {b : Bool} (hw : wantedL ops L o = some b) :
    Region.wanted o (yielded ops a.tmps) = b := by
  unfold wantedL at hw
  unfold Region.wanted
  cases hg : o.guard with
  | none => rw [hg] at hw; simpa using hw
  | some g =>
    obtain ⟨j, want⟩ := g
    rw [hg] at hw
    simp only at hw ⊢
    unfold yielded
    cases hd : (ops[j]?).bind (·.dst) with
    | none =>
      rw [hd] at hw
      simp only [Option.some.injEq] at hw
      subst hw
      simp
    | some d =>
      rw [hd] at hw
      simp only at hw
      simp only [Option.bind_some]
      cases hL : L.get d with
      | none => rw [hL] at hw; simp at hw
      | some v =>
        rw [hL] at hw
        rw [h.get d v hL]
        cases v <;> simp_all

variable {P : Program} {n : Nat} {ops : Array Oper} {Q : Exit → Act → World → Prop} {w : World} {L : Env}

/-- Code walked from all frames in which the slots of L are known. -/
def W (P : Program) (n : Nat) (L : Env) (c : Code) (Q : Exit → Act → World → Prop) (w : World) : Prop := ∀ a, Fr n L a → c.wp P Q a w
/-- The rest of a region, then code. -/
def WO (P : Program) (n : Nat) (ops : Array Oper) (is : List Nat) (L : Env) (Q : Exit → Act → World → Prop) (w : World) : Prop := ∀ a, Fr n L a → wpOps P ops Q is a w

/-- Pure operations, as many as stand in the list. -/
def runPure (P : Program) (n : Nat) (ops : Array Oper) : List Nat → Env → Option Env
  | [], L => some L
  | i :: is, L =>
    match ops[i]? with
    | none => none
    | some o =>
      bif (match o.dst with | some d => Nat.ble n d | none => false) then none else
      match wantedL ops L o with
      | none => none
      | some false => runPure P n ops is (L.put o.dst undef)
      | some true =>
        bif L.hasAll o then
          match pureRun P (execOp L.ev o) with
          | some (.value v) => runPure P n ops is (L.put o.dst v)
          | _ => none
        else none

theorem WO_pure : ∀ {is : List Nat} {L L' : Env} {rest : List Nat}, runPure P n ops is L = some L' → WO P n ops rest L' Q w → WO P n ops (is ++ rest) L Q w := by
  intro is
  induction is with
  | nil => intro L L' rest h hr; simp [runPure] at h; subst h; exact hr
  | cons i is ih =>
    intro L L' rest h hr a ha
    simp only [runPure] at h
    cases ho : ops[i]? with
    | none => rw [ho] at h; simp at h
    | some o =>
      rw [ho] at h
      simp only at h
      have hd : ∀ t, o.dst = some t → t < n := by
        intro t ht
        rw [ht] at h
        rcases Nat.lt_or_ge t n with hlt | hge
        · exact hlt
        · have : Nat.ble n t = true := Nat.ble_eq_true_of_le hge
          simp [this] at h
      have h2 : (match wantedL ops L o with
          | none => none
          | some false => runPure P n ops is (L.put o.dst undef)
          | some true => bif L.hasAll o then
              match pureRun P (execOp L.ev o) with
              | some (.value v) => runPure P n ops is (L.put o.dst v)
              | _ => none
            else none) = some L' := by
        revert h
        cases (match o.dst with | some d => Nat.ble n d | none => false) <;> simp
      clear h
      rw [List.cons_append, wpOps]
      simp only [ho]
      cases hw : wantedL ops L o with
      | none => rw [hw] at h2; simp at h2
      | some b =>
        rw [ha.wanted hw]
        rw [hw] at h2
        cases b with
        | false => simp only [Bool.false_eq_true, if_false]; exact ih h2 hr _ (ha.put hd _)
        | true =>
          simp only [if_true]
          simp only at h2
          cases hA : L.hasAll o with
          | false => rw [hA] at h2; simp at h2
          | true =>
            rw [hA] at h2
            simp only [cond_true] at h2
            cases hp : pureRun P (execOp L.ev o) with
            | none => rw [hp] at h2; simp at h2
            | some x =>
              rw [hp] at h2
              cases x with
              | value v =>
                left
                unfold Oper.wp
                rw [ha.exec hA, pureRun_run hp w]
                exact ih h2 hr _ (ha.put hd _)
              | _ => simp at h2

/-- One operation that yields a value, whatever it does to the world. -/
theorem WO_val {i : Nat} {is : List Nat} {o : Oper} {v : Value} {w' : World} (ho : ops[i]? = some o) (hd : ∀ t, o.dst = some t → t < n) (hw : wantedL ops L o = some true) (hA : L.hasAll o = true)
    (hr : (execOp L.ev o).run P w = .ok (.value v) w') (h : WO P n ops is (L.put o.dst v) Q w') : WO P n ops (i :: is) L Q w := by
  intro a ha
  rw [wpOps]
  simp only [ho]
  rw [ha.wanted hw]
  simp only [if_true]
  left
  unfold Oper.wp
  rw [ha.exec hA, hr]
  exact h _ (ha.put hd _)

theorem WO_skip {i : Nat} {is : List Nat} {o : Oper} {w' : World} (ho : ops[i]? = some o) (hd : ∀ t, o.dst = some t → t < n) (hw : wantedL ops L o = some true) (hA : L.hasAll o = true)
    (hr : (execOp L.ev o).run P w = .ok .skip w') (h : WO P n ops is (L.put o.dst undef) Q w') : WO P n ops (i :: is) L Q w := by
  intro a ha
  rw [wpOps]
  simp only [ho]
  rw [ha.wanted hw]
  simp only [if_true]
  left
  unfold Oper.wp
  rw [ha.exec hA, hr]
  exact h _ (ha.put hd _)

/-- A call by a contract. -/
theorem WO_call {i : Nat} {is : List Nat} {o : Oper} {f : FuncId} {args : Array Value} {R : Ending → World → Prop} (ho : ops[i]? = some o) (hd : ∀ t, o.dst = some t → t < n) (hw : wantedL ops L o = some true)
    (hA : L.hasAll o = true) (hr : pureRun P (execOp L.ev o) = some (.enter f args)) (hc : Calls P f args w R)
    (h : ∀ e w', R e w' → ∃ v, e = .returned v ∧ WO P n ops is (L.put o.dst v) Q w') : WO P n ops (i :: is) L Q w := by
  intro a ha
  rw [wpOps]
  simp only [ho]
  rw [ha.wanted hw]
  simp only [if_true]
  left
  unfold Oper.wp
  rw [ha.exec hA, pureRun_run hr w]
  refine hc.mono fun e w' he => ?_
  obtain ⟨v, rfl, hk⟩ := h e w' he
  exact hk _ (ha.put hd _)

theorem WO_nil (h : ∀ a, Fr n L a → Q .normal a w) : WO P n ops [] L Q w := fun a ha => h a ha

/-- Fewer slots. -/
theorem WO_sub {is : List Nat} {L' : Env} (hs : Env.sub L' L) (h : WO P n ops is L' Q w) : WO P n ops is L Q w := fun a ha => h a (ha.mono hs)
theorem W_sub {c : Code} {L' : Env} (hs : Env.sub L' L) (h : W P n L' c Q w) : W P n L c Q w := fun a ha => h a (ha.mono hs)

/-! ### code -/
theorem W_region {id : Nat} {c : Code} (h : WO P n ops (List.range ops.size) L (Exit.then (c.wp P Q) Q) w) : W P n L (.seq (.region id ops false) c) Q w :=
  fun a ha => wp_seq (wp_region (h a ha))
theorem WO_end {c : Code} (h : W P n L c Q w) : WO P n ops [] L (Exit.then (c.wp P Q) Q) w := fun a ha => h a ha
theorem W_region1 {id : Nat} (h : WO P n ops (List.range ops.size) L Q w) : W P n L (.region id ops false) Q w := fun a ha => wp_region (h a ha)
theorem W_seq {x y : Code} (h : W P n L x (Exit.then (y.wp P Q) Q) w) : W P n L (.seq x y) Q w := fun a ha => wp_seq (h a ha)
theorem W_skip (h : ∀ a, Fr n L a → Q .normal a w) : W P n L .skip Q w := fun a ha => wp_skip (h a ha)
theorem W_label {l : Nat} (h : ∀ a, Fr n L a → Q .normal a w) : W P n L (.label l) Q w := fun a ha => wp_label (h a ha)
theorem W_exit {id : Nat} (h : ∀ a, Fr n L a → Q (.exit id) a w) : W P n L (.exit id) Q w := fun a ha => wp_exit (h a ha)
theorem W_goto {l : Nat} (h : ∀ a, Fr n L a → Q (.goto l) a w) : W P n L (.goto l) Q w := fun a ha => wp_goto (h a ha)
theorem W_ret (h : ∀ a, Fr n L a → Q .ret a w) : W P n L .ret Q w := fun a ha => wp_ret (h a ha)
/-- Behind the first part of a seq. -/
theorem W_next {c : Code} (h : W P n L c Q w) : ∀ a, Fr n L a → c.wp P Q a w := h
theorem W_cond {c : Operand} {x y : Code} {t : Bool} (hh : L.has c = true) (hc : L.ev c = .bool t) (ht : t = true → W P n L x Q w) (hf : t = false → W P n L y Q w) : W P n L (.cond c x y) Q w :=
  fun a ha => wp_cond_split (t := t) (by rw [ha.eval hh, hc]) (fun h => ht h a ha) (fun h => hf h a ha)
theorem W_condT {c : Operand} {x y : Code} (hh : L.has c = true) (hc : L.ev c = .bool true) (h : W P n L x Q w) : W P n L (.cond c x y) Q w :=
  fun a ha => wp_cond_true (by rw [ha.eval hh, hc]) (h a ha)
theorem W_condF {c : Operand} {x y : Code} (hh : L.has c = true) (hc : L.ev c = .bool false) (h : W P n L y Q w) : W P n L (.cond c x y) Q w :=
  fun a ha => wp_cond_false (by rw [ha.eval hh, hc]) (h a ha)
theorem W_block {id : Nat} {c : Code} (h : W P n L c (Exit.inBlock id Q) w) : W P n L (.block id c) Q w := fun a ha => wp_block (h a ha)

/-- A loop: s: what the rounds go over; E: the slots, I: what holds, at a round's head. -/
theorem W_loop {σ : Type} {c : Code} (E : σ → Env) (I : σ → World → Prop) (μ : σ → Nat) (s : σ) (hs : Env.sub (E s) L) (hi : I s w)
    (round : ∀ s w, I s w → W P n (E s) c (Exit.then (fun a' w' => ∃ s', Fr n (E s') a' ∧ I s' w' ∧ μ s' < μ s) Q) w) : W P n L (.loop c) Q w := by
  intro a ha b k cs
  have key : ∀ m s a w, μ s = m → Fr n (E s) a → I s w →
      ∃ e a' w', Q e a' w' ∧ Arrives P (lone (b.at a (.code c :: .inLoop c :: k)) cs w) b k cs e a' w' := by
    intro m
    induction m using Nat.strongRecOn with
    | _ m ih =>
      intro s a w hm hf hI
      obtain ⟨e, a₁, w₁, hq, harr⟩ := round s w hI a hf b (.inLoop c :: k) cs
      cases e with
      | normal =>
        obtain ⟨s', hf', hI', hlt⟩ := hq
        obtain ⟨e₂, a₂, w₂, hq₂, harr₂⟩ := ih _ (by omega) s' a₁ w₁ rfl hf' hI'
        exact ⟨e₂, a₂, w₂, hq₂, .of_steps (Steps.trans harr (.one step_inLoop)) harr₂⟩
      | exit id => exact ⟨.exit id, a₁, w₁, hq, fun k' hk => harr k' (by simp [exitTo, hk])⟩
      | goto l => exact ⟨.goto l, a₁, w₁, hq, fun k' hk => harr k' (by simp [gotoIn, hk])⟩
      | ret => exact ⟨_, a₁, w₁, hq, harr⟩
      | panic ch => exact ⟨_, a₁, w₁, hq, harr⟩
      | outgrown => exact ⟨_, a₁, w₁, hq, harr⟩
  obtain ⟨e, a₁, w₁, hq, harr⟩ := key _ s a w rfl (ha.mono hs) hi
  exact ⟨e, a₁, w₁, hq, .of_steps (.one step_loop) harr⟩
theorem again {σ : Type} {E : σ → Env} {I : σ → World → Prop} {μ : σ → Nat} {s : σ} (s' : σ) (hs : Env.sub (E s') L) (hi : I s' w) (hm : μ s' < μ s) :
    ∀ a, Fr n L a → ∃ s', Fr n (E s') a ∧ I s' w ∧ μ s' < μ s := fun _ ha => ⟨s', ha.mono hs, hi, hm⟩

/-- By a goto to a label: J; else as Q. -/
def Exit.labels (J : Nat → Act → World → Prop) (Q : Exit → Act → World → Prop) : Exit → Act → World → Prop
  | .goto l, a, w => J l a w
  | e, a, w => Q e a w
theorem labels_mono {J J' : Nat → Act → World → Prop} (h : ∀ l a w, J l a w → J' l a w) : ∀ e a w, Exit.labels J Q e a w → Exit.labels J' Q e a w := by
  intro e a w hh
  cases e <;> first | exact h _ _ _ hh | exact hh

/-- A scope with labels: R l: the code behind label l; E l s: the slots, I l s: what holds when the run comes there. -/
theorem W_scope {σ : Type} {c : Code} (R : Nat → Code) (E : Nat → σ → Env) (I : Nat → σ → World → Prop) (μ : Nat → σ → Nat) (ok : Nat → Prop) (hR : ∀ l, ok l → findLabel c l = some (.seq .skip (R l)))
    (pass : ∀ l s w, ok l → I l s w → W P n (E l s) (R l) (Exit.labels (fun l' a' w' => ok l' ∧ ∃ s', Fr n (E l' s') a' ∧ I l' s' w' ∧ μ l' s' < μ l s) Q) w)
    (first : (∀ l s w, ok l → I l s w → W P n (E l s) (R l) (Exit.labels (fun l' a' w' => ok l' ∧ ∃ s', Fr n (E l' s') a' ∧ I l' s' w') Q) w) →
      W P n L c (Exit.labels (fun l' a' w' => ok l' ∧ ∃ s', Fr n (E l' s') a' ∧ I l' s' w') Q) w) : W P n L (.scope c) Q w := by
  have hfirst := first (fun l s w hl hI a ha => wp_mono (pass l s w hl hI a ha) (labels_mono fun l a w ⟨h0, s', h1, h2, _⟩ => ⟨h0, s', h1, h2⟩))
  intro a ha b k cs
  have hg : ∀ l, ok l → gotoIn l (.inScope c :: k) = some (.code (.seq .skip (R l)) :: .inScope c :: k) := fun l hl => by simp [gotoIn, hR l hl]
  have key : ∀ m l s a w, μ l s = m → ok l → Fr n (E l s) a → I l s w →
      ∃ e a' w', Q e a' w' ∧ Arrives P (lone (b.at a (.code (.seq .skip (R l)) :: .inScope c :: k)) cs w) b k cs e a' w' := by
    intro m
    induction m using Nat.strongRecOn with
    | _ m ih =>
      intro l s a w hm hl hf hI
      obtain ⟨e, a₁, w₁, hq, harr⟩ := wp_seq (wp_skip (Q := Exit.then ((R l).wp P _) _) (pass l s w hl hI a hf)) b (.inScope c :: k) cs
      cases e with
      | normal => exact ⟨.normal, a₁, w₁, hq, Steps.trans harr (.one step_inScope)⟩
      | exit id => exact ⟨.exit id, a₁, w₁, hq, fun k' hk => harr k' (by simp [exitTo, hk])⟩
      | goto l' =>
        obtain ⟨hl', s', hf', hI', hlt⟩ := hq
        obtain ⟨e₂, a₂, w₂, hq₂, harr₂⟩ := ih _ (by omega) l' s' a₁ w₁ rfl hl' hf' hI'
        exact ⟨e₂, a₂, w₂, hq₂, .of_steps (harr _ (hg l' hl')) harr₂⟩
      | ret => exact ⟨_, a₁, w₁, hq, harr⟩
      | panic ch => exact ⟨_, a₁, w₁, hq, harr⟩
      | outgrown => exact ⟨_, a₁, w₁, hq, harr⟩
  obtain ⟨e, a₁, w₁, hq, harr⟩ := hfirst a ha b (.inScope c :: k) cs
  cases e with
  | normal => exact ⟨.normal, a₁, w₁, hq, .head step_scope (Steps.trans harr (.one step_inScope))⟩
  | exit id => exact ⟨.exit id, a₁, w₁, hq, fun k' hk => .head step_scope (harr k' (by simp [exitTo, hk]))⟩
  | goto l' =>
    obtain ⟨hl', s', hf', hI'⟩ := hq
    obtain ⟨e₂, a₂, w₂, hq₂, harr₂⟩ := key _ l' s' a₁ w₁ rfl hl' hf' hI'
    exact ⟨e₂, a₂, w₂, hq₂, .of_steps (.head step_scope (harr _ (hg l' hl'))) harr₂⟩
  | ret => exact ⟨_, a₁, w₁, hq, .of_steps (.one step_scope) harr⟩
  | panic ch => exact ⟨_, a₁, w₁, hq, .of_steps (.one step_scope) harr⟩
  | outgrown => exact ⟨_, a₁, w₁, hq, .of_steps (.one step_scope) harr⟩

/-- At a label's place the walk goes on as a jump to it would. -/
theorem W_at {E : Env} {l : Nat} {c : Code} (hs : Env.sub E L) (h : W P n E c Q w) : W P n L (.seq (.label l) c) Q w := fun a ha => wp_seq (wp_label (h a (ha.mono hs)))
theorem jump {σ : Type} {E : Nat → σ → Env} {I : Nat → σ → World → Prop} {μ : Nat → σ → Nat} {ok : Nat → Prop} {l l0 : Nat} {s : σ} (hl : ok l) (s' : σ) (hs : Env.sub (E l s') L) (hi : I l s' w) (hm : μ l s' < μ l0 s) :
    ∀ a, Fr n L a → ok l ∧ ∃ s', Fr n (E l s') a ∧ I l s' w ∧ μ l s' < μ l0 s := fun _ ha => ⟨hl, s', ha.mono hs, hi, hm⟩
theorem jump1 {σ : Type} {E : Nat → σ → Env} {I : Nat → σ → World → Prop} {ok : Nat → Prop} {l : Nat} (hl : ok l) (s' : σ) (hs : Env.sub (E l s') L) (hi : I l s' w) :
    ∀ a, Fr n L a → ok l ∧ ∃ s', Fr n (E l s') a ∧ I l s' w := fun _ ha => ⟨hl, s', ha.mono hs, hi⟩

/-- A cut: what comes behind is walked once, from all that E, I say. -/
theorem W_cut {σ : Type} {x y : Code} (E : σ → Env) (I : σ → World → Prop) (h : W P n L x (Exit.then (fun a w => ∃ s, Fr n (E s) a ∧ I s w) Q) w) (hy : ∀ s w, I s w → W P n (E s) y Q w) : W P n L (.seq x y) Q w :=
  fun a ha => wp_seq (wp_mono (h a ha) fun e a w he => by
    cases e <;> first | (obtain ⟨s, hf, hI⟩ := he; exact hy s w hI a hf) | exact he)
theorem meet {σ : Type} {E : σ → Env} {I : σ → World → Prop} (s : σ) (hs : Env.sub (E s) L) (hi : I s w) : ∀ a, Fr n L a → ∃ s, Fr n (E s) a ∧ I s w := fun _ ha => ⟨s, ha.mono hs, hi⟩

/-! ### a call begins, and ends -/
/-- The arguments, in the first slots. -/
def argEnv : Nat → List Value → Env
  | _, [] => []
  | i, v :: vs => (i, v) :: argEnv (i + 1) vs
theorem argEnv_get : ∀ (vs : List Value) (i t : Nat) (v : Value), (argEnv i vs).get t = some v → i ≤ t ∧ vs[t - i]? = some v := by
  intro vs
  induction vs with
  | nil => intro i t v h; simp [argEnv, Env.get] at h
  | cons x vs ih =>
    intro i t v h
    rw [argEnv, Env.get_put] at h
    by_cases e : i = t
    · subst e
      rw [if_pos rfl] at h
      simp only [Option.some.injEq] at h
      subst h
      exact ⟨Nat.le_refl _, by simp⟩
    · rw [if_neg e] at h
      obtain ⟨h1, h2⟩ := ih _ _ _ h
      refine ⟨by omega, ?_⟩
      rw [show t - i = (t - (i + 1)) + 1 by omega]
      simpa using h2
theorem Calls_of {f : FuncId} {fn : Func} {c : Code} {args : List Value} {R : Ending → World → Prop} (hf : P.funcs[f]? = some fn) (hb : fn.body = some c) (hn : Nat.ble args.length fn.ntmps = true)
    (h : W P fn.ntmps (argEnv 0 args) c (bodyPost P fn R) w) : Calls P f args.toArray w R := by
  have hn' : args.length ≤ fn.ntmps := Nat.le_of_ble_eq_true hn
  refine calls_of_wp hf hb (h _ ⟨rfl, by simp; omega, fun t v hv => ?_⟩)
  obtain ⟨_, h2⟩ := argEnv_get _ _ _ _ hv
  simp only [Nat.sub_zero] at h2
  have hl : t < args.length := (List.getElem?_eq_some_iff.1 h2).1
  rw [Array.getElem?_append_left (by simpa using hl)]
  simpa using h2

def tup : List Value → Value
  | [v] => v
  | vs => .tuple vs.toArray
inductive Res (P : Program) (L : Env) (w : World) : List ResultVar → List Value → Prop where
  | nil : Res P L w [] []
  | tmp {t : Nat} {v : Value} {rs : List ResultVar} {vs : List Value} (h : L.get t = some v) (r : Res P L w rs vs) : Res P L w (.tmp t :: rs) (v :: vs)
  | cell {t : Nat} {a : Addr} {ty : TypeId} {v : Value} {rs : List ResultVar} {vs : List Value} (h : L.get t = some (.pointer (some a))) (hl : (loadVar ty a).run P w = .ok v w) (r : Res P L w rs vs) :
    Res P L w (.cell t ty :: rs) (v :: vs)
theorem loads_tup {f : ResultVar → Sem Value} {tmps : Array Value} (hf : ∀ u, f (.tmp u) = pure (tmps.getD u undef)) (hc : ∀ a t, f (.cell a t) = (do loadVar t (← asAddr (tmps.getD a undef)))) {a : Act} (ha : Fr n L a) (ht : a.tmps = tmps) :
    ∀ {rs : List ResultVar} {vs : List Value}, Res P L w rs vs → (rs.mapM f).run P w = .ok vs w := by
  intro rs vs h
  induction h with
  | nil => simp
  | tmp h r ih =>
    have hv := ha.get _ _ h
    rw [ht] at hv
    simp [List.mapM_cons, hf, ih, hv]
  | cell h hl r ih =>
    have hv := ha.get _ _ h
    rw [ht] at hv
    simp [List.mapM_cons, hc, ih, hv, asAddr, hl]
theorem Res.run {rs : List ResultVar} {vs : List Value} {fn : Func} {a : Act} (hfn : fn.results = rs.toArray) (h : Res P L w rs vs) (ha : Fr n L a) : (results fn a.tmps).run P w = .ok (tup vs) w := by
  have hm := loads_tup (P := P) (w := w) (f := fun | .tmp t => pure (a.tmps.getD t undef) | .cell x t => do loadVar t (← asAddr (a.tmps.getD x undef))) (tmps := a.tmps) (fun _ => rfl) (fun _ _ => rfl) ha rfl h
  unfold results
  rw [hfn]
  simp only [List.mapM_toArray, Sem.run_bind, Sem.run_map]
  refine (congrArg (fun r : Result (List Value) => (r.andThen fun l w' => Result.ok l.toArray w').andThen fun vs w' => (pure (if h : vs.size = 1 then vs[0] else Value.tuple vs) : Sem Value).run P w') hm).trans ?_
  simp only [Result.andThen_ok]
  show Result.ok _ w = _
  match vs with
  | [] => rfl
  | [v] => rfl
  | x :: y :: l => simp [tup]
theorem ret_ {rs : List ResultVar} {vs : List Value} {fn : Func} {R : Ending → World → Prop} (hfn : fn.results = rs.toArray) (h : Res P L w rs vs) (hR : R (.returned (tup vs)) w) : ∀ a, Fr n L a → bodyPost P fn R .ret a w :=
  fun _ ha => ⟨ha.defers, tup vs, h.run hfn ha, hR⟩
theorem end_ {rs : List ResultVar} {vs : List Value} {fn : Func} {R : Ending → World → Prop} (hfn : fn.results = rs.toArray) (h : Res P L w rs vs) (hR : R (.returned (tup vs)) w) : ∀ a, Fr n L a → bodyPost P fn R .normal a w :=
  fun _ ha => ⟨ha.defers, tup vs, h.run hfn ha, hR⟩
end Go.Arr
