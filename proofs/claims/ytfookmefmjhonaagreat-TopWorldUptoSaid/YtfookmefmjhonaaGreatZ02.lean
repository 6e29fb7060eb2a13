/- For the law of worlds: The engine. -/
import Derived.Test.YtfookmefmjhonaaGreatZ01
set_option linter.all false
namespace Go.bE
section
abbrev Env:=List (Nat×Value)
def Env.get:Env→Nat→Option Value
 | [],_=>none
 |(k,v)::r,t=>bif Nat.beq k t then some v else Env.get r t
def Env.ev (L:Env):Operand→Value
 |.tmp t=>(L.get t).getD undef
 |.const v=>v
 |.global g=>.pointer (some ⟨g,0,none⟩)
 |.func f=>.func (.func f) #[] #[]
def Env.has (L:Env):Operand→Bool
 |.tmp t=>(L.get t).isSome
 |_=>true
def Env.put (L:Env):Option Nat→Value→Env
 |some d,v=>(d,v)::L
 |none,_=>L
structure Fr (n:Nat) (L:Env) (a:Act):Prop where
 defers:a.defers= []
 size:a.tmps.size=n
 get: ∀t v,L.get t=some v→a.tmps[t]? =some v
def Fr.mono {n:Nat} {L L':Env} {a:Act} (h:Fr n L a) (hl: ∀t v,L'.get t=some v→L.get t=some v):Fr n L' a:=
 ⟨h.defers,h.size,fun t v hv=>h.get t v (hl t v hv)⟩
def Env.sub (L' L:Env):Prop:= ∀t v,L'.get t=some v→L.get t=some v
def Env.PE (L:Env):Env.sub [] L:=fun t v h=>by simp [Env.get] at h
def Env.Lo {L' L:Env} {k:Nat} {v:Value} (h:L.get k=some v) (hs:Env.sub L' L):Env.sub ((k,v)::L') L:=fun t u hu=>by
 simp only [Env.get] at hu
 cases hb:Nat.beq k t with
 |true=>
  rw [hb] at hu
  have:=dh hb
  subst this
  simp only [cond_true,a9] at hu
  rw [h,hu]
 |false=>rw [hb] at hu;exact hs t u hu
def Env.sY {L:Env} {d:Nat} {v:Value} {t:Nat}:Env.get ((d,v)::L) t=if d=t then some v else L.get t:=by
 simp only [Env.get]
 cases hb:Nat.beq d t with
 |true=>have:=dh hb;simp [this]
 |false=>have:=Nat.ne_of_beq_eq_false hb;simp [this]
def Fr.put {n:Nat} {L:Env} {a:Act} (h:Fr n L a) {d:Option Nat} (hd: ∀t,d=some t→t<n) (v:Value):Fr n (L.put d v) (a.put d v):=by
 cases d with
 |none=>exact h
 |some d=>
  refine ⟨h.defers,by simp [Act.put,h.size],fun t u hu=>?_⟩
  rw [Env.put,Env.sY] at hu
  simp only [Act.put]
  by_cases e:d=t
  ·subst e
   simp only [if_true,a9] at hu
   subst hu
   rw [Array.getElem?_setIfInBounds_self]
   simp [h.size,hd d rfl]
  ·rw [if_neg e] at hu
   rw [Array.getElem?_setIfInBounds_ne e]
   exact h.get t u hu
def Fr.eval {n:Nat} {L:Env} {a:Act} (h:Fr n L a) {x:Operand} (hx:L.has x=true):a.eval x=L.ev x:=by
 cases x with
 |tmp t=>
  simp only [Env.has,Option.isSome_iff_exists] at hx
  obtain ⟨v,hv⟩:=hx
  simp [Act.eval,Env.ev,hv,h.get t v hv]
 |_=>rfl
def noSelect:Op→Bool
 |.select .. =>false
 |_=>true
def Env.jk (L:Env) (o:Oper):Bool:=noSelect o.op&&o.op.operands.toList.all L.has
def Fr.exec {n:Nat} {L:Env} {a:Act} (h:Fr n L a) {o:Oper} (ho:L.jk o=true):execOp a.eval o=execOp L.ev o:=by
 simp only [Env.jk,da] at ho
 refine execOp_congr o (fun cs b e=>?_) fun x hx=>h.eval ?_
 ·rw [e] at ho;simp [noSelect] at ho
 ·exact dE.1 ho.2 x (Array.mem_toList_iff.2 hx)
def bc {α:Type} (P:Program):Sem α→Option α
 |.pure a=>some a
 |.program k=>bc P (k P)
 |.mark _ k=>bc P k
 |_=>none
def eO {α:Type} {P:Program}: ∀ {s:Sem α} {a:α},bc P s=some a→ ∀w,s.run P w=.ok a w:=by
 intro s
 induction s with
 |pure a=>intro b h w;simp [bc] at h;subst h;rfl
 |program k ih=>intro b h w;exact ih P h w
 |mark m k ih=>intro b h w;exact ih h w
 |_=>intro b h;simp [bc] at h
def gT (ops:Array Oper) (L:Env) (o:Oper):Option Bool:=
 match o.guard with
 |none=>some true
 |some (j,_G)=>
  match (ops[j]?).bind (·.dst) with
  |some d=>match L.get d with
   |some (.bool b)=>some (b==_G)
   |some _=>some false
   |none=>none
  |none=>some false
def Fr.wanted {n:Nat} {L:Env} {a:Act} (h:Fr n L a) {ops:Array Oper} {o:Oper} {b:Bool} (hw:gT ops L o=some b):
 Region.wanted o (yielded ops a.tmps)=b:=by
 unfold gT at hw
 unfold Region.wanted
 cases hg:o.guard with
 |none=>rw [hg] at hw;simpa using hw
 |some g=>
  obtain ⟨j,_G⟩:=g
  rw [hg] at hw
  simp only at hw⊢
  unfold yielded
  cases hd:(ops[j]?).bind (·.dst) with
  |none=>
   rw [hd] at hw
   simp only [a9] at hw
   subst hw
   simp
  |some d=>
   rw [hd] at hw
   simp only at hw
   simp only [Option.bind_some]
   cases hL:L.get d with
   |none=>rw [hL] at hw;simp at hw
   |some v=>
    rw [hL] at hw
    rw [h.get d v hL]
    cases v<;>simp_all
variable {P:Program} {n:Nat} {ops:Array Oper} {Q:Exit→Act→World→Prop} {w:World} {L:Env}
def W (P:Program) (n:Nat) (L:Env) (c:Code) (Q:Exit→Act→World→Prop) (w:World):Prop:= ∀a,Fr n L a→c.wp P Q a w
def WO (P:Program) (n:Nat) (ops:Array Oper) (is:List Nat) (L:Env) (Q:Exit→Act→World→Prop) (w:World):Prop:= ∀a,Fr n L a→wpOps P ops Q is a w
def UJ {σ:Type} {c:Code} (E:σ→Env) (I:σ→World→Prop) (μ:σ→Nat) (s:σ) (hs:Env.sub (E s) L) (hi:I s w)
 (round: ∀s w,I s w→W P n (E s) c (Exit.then (fun a' w'=> ∃s',Fr n (E s') a'∧I s' w'∧μ s'<μ s) Q) w):W P n L (.loop c) Q w:=by
 intro a ha b k cs
 have key: ∀m s a w,μ s=m→Fr n (E s) a→I s w→
  ∃e a' w',Q e a' w'∧Arrives P (lone (b.at a (.code c::.inLoop c::k)) cs w) b k cs e a' w':=by
  intro m
  induction m using Nat.strongRecOn with
  |_ m ih=>
   intro s a w hm hf hI
   obtain ⟨e,lj,ln,hq,lp⟩:=round s w hI a hf b (.inLoop c::k) cs
   cases e with
   |normal=>
    obtain ⟨s',Po,_H,l8⟩:=hq
    obtain ⟨LZ,L0,L1,BT,qX⟩:=ih _ (by omega) s' lj ln rfl Po _H
    exact ⟨LZ,L0,L1,BT,.of_steps (Steps.trans lp (.one step_inLoop)) qX⟩
   |exit id=>exact ⟨.exit id,lj,ln,hq,fun k' hk=>lp k' (by simp [exitTo,hk])⟩
   |goto l=>exact ⟨.goto l,lj,ln,hq,fun k' hk=>lp k' (by simp [gotoIn,hk])⟩
   |ret=>exact ⟨_,lj,ln,hq,lp⟩
   |panic ch=>exact ⟨_,lj,ln,hq,lp⟩
   |outgrown=>exact ⟨_,lj,ln,hq,lp⟩
 obtain ⟨e,lj,ln,hq,lp⟩:=key _ s a w rfl (ha.mono hs) hi
 exact ⟨e,lj,ln,hq,.of_steps (.one step_loop) lp⟩
def Exit.labels (J:Nat→Act→World→Prop) (Q:Exit→Act→World→Prop):Exit→Act→World→Prop
 |.goto l,a,w=>J l a w
 |e,a,w=>Q e a w
def BU {J J':Nat→Act→World→Prop} (h: ∀l a w,J l a w→J' l a w): ∀e a w,Exit.labels J Q e a w→Exit.labels J' Q e a w:=by
 intro e a w hh
 cases e<;>first|exact h _ _ _ hh|exact hh
def P' {σ:Type} {c:Code} (R:Nat→Code) (E:Nat→σ→Env) (I:Nat→σ→World→Prop) (μ:Nat→σ→Nat) (ok:Nat→Prop) (hR: ∀l,ok l→findLabel c l=some (.seq .skip (R l)))
 (pass: ∀l s w,ok l→I l s w→W P n (E l s) (R l) (Exit.labels (fun l' a' w'=>ok l'∧ ∃s',Fr n (E l' s') a'∧I l' s' w'∧μ l' s'<μ l s) Q) w)
 (first:(∀l s w,ok l→I l s w→W P n (E l s) (R l) (Exit.labels (fun l' a' w'=>ok l'∧ ∃s',Fr n (E l' s') a'∧I l' s' w') Q) w)→
  W P n L c (Exit.labels (fun l' a' w'=>ok l'∧ ∃s',Fr n (E l' s') a'∧I l' s' w') Q) w):W P n L (.scope c) Q w:=by
 have pe:=first (fun l s w hl hI a ha=>wp_mono (pass l s w hl hI a ha) (BU fun l a w ⟨h0,s',h1,h2,_⟩=>⟨h0,s',h1,h2⟩))
 intro a ha b k cs
 have hg: ∀l,ok l→gotoIn l (.inScope c::k)=some (.code (.seq .skip (R l))::.inScope c::k):=fun l hl=>by simp [gotoIn,hR l hl]
 have key: ∀m l s a w,μ l s=m→ok l→Fr n (E l s) a→I l s w→
  ∃e a' w',Q e a' w'∧Arrives P (lone (b.at a (.code (.seq .skip (R l))::.inScope c::k)) cs w) b k cs e a' w':=by
  intro m
  induction m using Nat.strongRecOn with
  |_ m ih=>
   intro l s a w hm hl hf hI
   obtain ⟨e,lj,ln,hq,lp⟩:=wp_seq (wp_skip (Q:=Exit.then ((R l).wp P _) _) (pass l s w hl hI a hf)) b (.inScope c::k) cs
   cases e with
   |normal=>exact ⟨.normal,lj,ln,hq,Steps.trans lp (.one step_inScope)⟩
   |exit id=>exact ⟨.exit id,lj,ln,hq,fun k' hk=>lp k' (by simp [exitTo,hk])⟩
   |goto l'=>
    obtain ⟨Hg,s',Po,_H,l8⟩:=hq
    obtain ⟨LZ,L0,L1,BT,qX⟩:=ih _ (by omega) l' s' lj ln rfl Hg Po _H
    exact ⟨LZ,L0,L1,BT,.of_steps (lp _ (hg l' Hg)) qX⟩
   |ret=>exact ⟨_,lj,ln,hq,lp⟩
   |panic ch=>exact ⟨_,lj,ln,hq,lp⟩
   |outgrown=>exact ⟨_,lj,ln,hq,lp⟩
 obtain ⟨e,lj,ln,hq,lp⟩:=pe a ha b (.inScope c::k) cs
 cases e with
 |normal=>exact ⟨.normal,lj,ln,hq,.head step_scope (Steps.trans lp (.one step_inScope))⟩
 |exit id=>exact ⟨.exit id,lj,ln,hq,fun k' hk=>.head step_scope (lp k' (by simp [exitTo,hk]))⟩
 |goto l'=>
  obtain ⟨Hg,s',Po,_H⟩:=hq
  obtain ⟨LZ,L0,L1,BT,qX⟩:=key _ l' s' lj ln rfl Hg Po _H
  exact ⟨LZ,L0,L1,BT,.of_steps (.head step_scope (lp _ (hg l' Hg))) qX⟩
 |ret=>exact ⟨_,lj,ln,hq,.of_steps (.one step_scope) lp⟩
 |panic ch=>exact ⟨_,lj,ln,hq,.of_steps (.one step_scope) lp⟩
 |outgrown=>exact ⟨_,lj,ln,hq,.of_steps (.one step_scope) lp⟩
def meet {σ:Type} {E:σ→Env} {I:σ→World→Prop} (s:σ) (hs:Env.sub (E s) L) (hi:I s w): ∀a,Fr n L a→ ∃s,Fr n (E s) a∧I s w:=fun _ ha=>⟨s,ha.mono hs,hi⟩
def l6:Nat→List Value→Env
 |_,[]=> []
 |i,v::vs=>(i,v)::l6 (i+1) vs
def DT: ∀(vs:List Value) (i t:Nat) (v:Value),(l6 i vs).get t=some v→i≤t∧vs[t-i]? =some v:=by
 intro vs
 induction vs with
 |nil=>intro i t v h;simp [l6,Env.get] at h
 |cons x vs ih=>
  intro i t v h
  rw [l6,Env.sY] at h
  by_cases e:i=t
  ·subst e
   rw [if_pos rfl] at h
   simp only [a9] at h
   subst h
   exact qle
  ·rw [if_neg e] at h
   obtain ⟨h1,h2⟩:=ih _ _ _ h
   refine ⟨by omega,?_⟩
   rw [show t-i=(t- (i+1))+1 by omega]
   exact IC
def uK {f:FuncId} {fn:Func} {c:Code} {args:List Value} {R:Ending→World→Prop} (hf:P.funcs[f]? =some fn) (hb:fn.body=some c) (hn:Nat.ble args.length fn.ntmps=true)
 (h:W P fn.ntmps (l6 0 args) c (bodyPost P fn R) w):Calls P f args.toArray w R:=by
 have hn':args.length≤fn.ntmps:=dF hn
 refine calls_of_wp hf hb (h _ ⟨rfl,by simp;omega,fun t v hv=>?_⟩)
 obtain ⟨_,h2⟩:=DT _ _ _ _ hv
 simp only [Nat.sub_zero] at h2
 have hl:t<args.length:=(aN.1 h2).1
 rw [Array.getElem?_append_left qsd]
 exact IC
def Vs:List Value→Value
 | [v]=>v
 |vs=>.tuple vs.toArray
inductive Qa (P:Program) (L:Env) (w:World):List ResultVar→List Value→Prop where
 |nil:Qa P L w [] []
 |tmp {t:Nat} {v:Value} {rs:List ResultVar} {vs:List Value} (h:L.get t=some v) (r:Qa P L w rs vs):Qa P L w (.tmp t::rs) (v::vs)
 |cell {t:Nat} {a:Addr} {ty:TypeId} {v:Value} {rs:List ResultVar} {vs:List Value} (h:L.get t=some (.pointer (some a))) (hl:(loadVar ty a).run P w=.ok v w) (r:Qa P L w rs vs):
  Qa P L w (.cell t ty::rs) (v::vs)
def HU {f:ResultVar→Sem Value} {tmps:Array Value} (hf: ∀u,f (.tmp u)=pure (tmps.getD u undef)) (hc: ∀a t,f (.cell a t)=(do loadVar t (← asAddr (tmps.getD a undef)))) {a:Act} (ha:Fr n L a) (ht:a.tmps=tmps):
 ∀ {rs:List ResultVar} {vs:List Value},Qa P L w rs vs→(rs.mapM f).run P w=.ok vs w:=by
 intro rs vs h
 induction h with
 |nil=>simp
 |tmp h r ih=>
  have hv:=ha.get _ _ h
  rw [ht] at hv
  simp [List.mapM_cons,hf,ih,hv]
 |cell h hl r ih=>
  have hv:=ha.get _ _ h
  rw [ht] at hv
  simp [List.mapM_cons,hc,ih,hv,asAddr,hl]
def Qa.run {rs:List ResultVar} {vs:List Value} {fn:Func} {a:Act} (IF:fn.results=rs.toArray) (h:Qa P L w rs vs) (ha:Fr n L a):(results fn a.tmps).run P w=.ok (Vs vs) w:=by
 have hm:=HU (P:=P) (w:=w) (f:=fun|.tmp t=>pure (a.tmps.getD t undef)|.cell x t=>do loadVar t (← asAddr (a.tmps.getD x undef))) (tmps:=a.tmps) (fun _=>rfl) (fun _ _=>rfl) ha rfl h
 unfold results
 rw [IF]
 simp only [List.mapM_toArray,Sem.run_bind,Sem.run_map]
 refine (congrArg (fun r:Result (List Value)=>(r.andThen fun l w'=>Result.ok l.toArray w').andThen fun vs w'=>(pure (if h:vs.size=1 then vs[0] else Value.tuple vs):Sem Value).run P w') hm).trans ?_
 simp only [Result.andThen_ok]
 show Result.ok _ w=_
 match vs with
 | []=>rfl
 | [v]=>rfl
 |x::y::l=>simp [Vs]
end
end Go.bE
namespace Go.bE
open Go.RowKit
section
variable {P:Program} {n:Nat} {ops:Array Oper} {Q:Exit→Act→World→Prop} {w:World} {L:Env}
def eN (ops:Array Oper) (i:Nat):Option Nat:=(ops[i]?).bind (·.dst)
def iU (n:Nat) (ops:Array Oper) (i:Nat):Bool:=match eN ops i with|some d=>Nat.blt d n|none=>true
def One (P:Program) (n:Nat) (ops:Array Oper) (Q:Exit→Act→World→Prop) (i:Nat) (L:Env) (w:World) (Post:Value→World→Prop):Prop:=
 ∀a,Fr n L a→ ∀K:Act→World→Prop,(∀v w',Post v w'→K (a.put (eN ops i) v) w')→wpOp P ops Q i K a w
def One.mono {i:Nat} {Post Rj:Value→World→Prop} (h:One P n ops Q i L w Post) (hp: ∀v w',Post v w'→Rj v w'):One P n ops Q i L w Rj:=
 fun a ha K hK=>h a ha K fun v w' hv=>hK v w' (hp v w' hv)
def CL {i:Nat} {is:List Nat} {Post:Value→World→Prop} (hd:iU n ops i=true) (h:One P n ops Q i L w Post) (hk: ∀v w',Post v w'→WO P n ops is (L.put (eN ops i) v) Q w'):WO P n ops (i::is) L Q w:=by
 intro a ha
 rw [wpOps_cons]
 refine h a ha _ fun v w' hv=>hk v w' hv _ (ha.put (fun t ht=>?_) v)
 unfold iU at hd
 rw [ht] at hd
 exact dY (dF hd) (bO _)
def ef (ops:Array Oper) (L:Env) (i:Nat):Option (Op×TypeId):=
 match ops[i]?with
 |some o=>match gT ops L o with
  |some true=>bif L.jk o then some (o.op,o.type) else none
  |_=>none
 |none=>none
def ex (L:Env) (x:Op×TypeId):Sem Next:=execOp L.ev {dst:=none,op:=x.1,type:=x.2,pos:= "",after:= #[],guard:=none}
def ry {i:Nat} {x:Op×TypeId} (h:ef ops L i=some x): ∃o,ops[i]? =some o∧gT ops L o=some true∧L.jk o=true∧execOp L.ev o=ex L x:=by
 unfold ef at h
 cases ho:ops[i]?with
 |none=>rw [ho] at h;cases h
 |some o=>
  rw [ho] at h
  simp only at h
  cases hw:gT ops L o with
  |none=>rw [hw] at h;cases h
  |some b=>
   rw [hw] at h
   cases b with
   |false=>cases h
   |true=>
    simp only at h
    cases hA:L.jk o with
    |false=>rw [hA] at h;cases h
    |true=>
     rw [hA] at h
     simp only [cond_true,a9] at h
     subst h
     exact ⟨o,rfl,hw,hA,rfl⟩
def cY {i:Nat} {x:Op×TypeId} {v:Value} {w':World} {Post:Value→World→Prop} (hx:ef ops L i=some x) (hr:(ex L x).run P w=.ok (.value v) w') (hp:Post v w'):One P n ops Q i L w Post:=by
 intro a ha K hK
 obtain ⟨o,ho,hw,hA,he⟩:=ry hx
 have hk:=hK v w' hp
 exact qg5
def jQ {i:Nat} {x:Op×TypeId} {w':World} {Post:Value→World→Prop} (hx:ef ops L i=some x) (hr:(ex L x).run P w=.ok .skip w') (hp:Post undef w'):One P n ops Q i L w Post:=by
 intro a ha K hK
 obtain ⟨o,ho,hw,hA,he⟩:=ry hx
 have hk:=hK undef w' hp
 exact qg5
def pd (P:Program) (ops:Array Oper) (L:Env) (i:Nat):Option Value:=
 match ops[i]?with
 |none=>none
 |some o=>
  match gT ops L o with
  |none=>none
  |some false=>some undef
  |some true=>
   bif L.jk o then
    match bc P (execOp L.ev o) with
    |some (.value v)=>some v
    |_=>none
   else none
def tw {i:Nat} {v:Value} {Post:Value→World→Prop} (h:pd P ops L i=some v) (hp:Post v w):One P n ops Q i L w Post:=by
 intro a ha K hK
 have hk:=hK v w hp
 unfold eN at hk
 unfold pd at h
 unfold wpOp
 cases ho:ops[i]?with
 |none=>rw [ho] at h;cases h
 |some o=>
  rw [ho] at h hk
  simp only [Option.bind_some] at h hk⊢
  cases hw:gT ops L o with
  |none=>rw [hw] at h;cases h
  |some b=>
   rw [hw] at h
   rw [ha.wanted hw]
   cases b with
   |false=>
    simp only [a9] at h
    subst h
    simpa using hk
   |true=>
    simp only at h
    cases hA:L.jk o with
    |false=>rw [hA] at h;cases h
    |true=>
     rw [hA] at h
     simp only [cond_true] at h
     simp only [if_true]
     cases hq:bc P (execOp L.ev o) with
     |none=>rw [hq] at h;cases h
     |some x=>
      rw [hq] at h
      cases x with
      |value u=>
       simp only [a9] at h
       subst h
       left
       unfold Oper.wp
       rw [ha.exec hA,eO hq w]
       exact hk
      |_=>cases h
def zV {i:Nat} {x:Op×TypeId} {f:FuncId} {args:Array Value} {R:Ending→World→Prop} {Post:Value→World→Prop} (hx:ef ops L i=some x) (hr:bc P (ex L x)=some (.enter f args)) (hc:Calls P f args w R)
 (h: ∀e w',R e w'→ ∃v,e=.returned v∧Post v w'):One P n ops Q i L w Post:=by
 intro a ha K hK
 obtain ⟨o,ho,hw,hA,he⟩:=ry hx
 unfold eN at hK
 unfold wpOp
 simp only [ho] at hK⊢
 rw [ha.wanted hw]
 simp only [if_true]
 left
 unfold Oper.wp
 rw [ha.exec hA,he,eO hr w]
 refine hc.mono fun e w' hR=>?_
 obtain ⟨v,rfl,hp⟩:=h e w' hR
 exact hK v w' hp
def pure_run {α:Type} {s:Sem α} {a:α} (h:bc P s=some a):s.run P w=.ok a w:=eO h w
def wy {t:TypeId} {a:Addr} {v:Value} (ht:bc P (isAgg t)=some false) (hc:w.cell? a=some v):(loadVar t a).run P w=.ok v w:=by
 simp [loadVar,pure_run ht,hc]
def wz {t:TypeId} {a:Addr} {cs:List Value} (ht:bc P (isAgg t)=some true) (hs:bc P (sizeOf t)=some cs.length) (hc: ∀j v,cs[j]? =some v→w.cell? (a.add j)=some v):
 (loadVar t a).run P w=.ok (.agg cs.toArray) w:=by
 simp [loadVar,pure_run ht,pure_run hs,run_loadCells_list w a cs hc]
def pO {i:Nat} {t ty:TypeId} {x:Operand} {a:Addr} {v:Value} {Post:Value→World→Prop} (hx:ef ops L i=some (.load t x,ty)) (ha:L.ev x=.pointer (some a)) (hr:(loadVar t a).run P w=.ok v w) (hp:Post v w):
 One P n ops Q i L w Post:=
 cY hx (by simp [ex,execOp,ha,Instr.loadAt,Instr.sureAddr,hr]) hp
def FZ {i:Nat} {t ty:TypeId} {x y:Operand} {a:Addr} {len cap:Nat} {k:IntKind} {j:Int} {e:TypeId} {sz:Nat} {Post:Value→World→Prop} (hx:ef ops L i=some (.indexAddr t x y,ty)) (ha:L.ev x=.slice (some a) len cap)
 (hy:L.ev y=.int k j) (ht:bc P (underlying t)=some (.slice e)) (hs:bc P (sizeOf e)=some sz) (h0:0≤j) (h1:j<len) (hp:Post (.pointer (some (a.add (j.toNat*sz)))) w):One P n ops Q i L w Post:=by
 refine cY hx ?_ hp
 simp [ex,execOp,ha,hy,Instr.indexAt,asIntOf,pure_run ht,pure_run hs,h0,h1]
def F5 {α:Type} (m:Ask α): ∀w:World,w.drawn≤(w.ask m).2.drawn:=by
 induction m with
 |done a=>intro w;exact bO _
 |ask XM range k ih=>
  intro w
  simp only [World.ask]
  split
  ·exact ih _ _
  ·have h2:=ih ((Question.extern XM range).cut (w.tape w.drawn (Question.extern XM range))) {w with drawn:=w.drawn+1}
   exact eF (Nat.le_succ _) h2
def F6 (w:World) (c:Sys):w.drawn≤(w.sys c).2.drawn:=by
 have h:=F5 (Kernel.perform c w.os) w
 unfold World.sys
 generalize w.ask (Kernel.perform c w.os)=x at h⊢
 obtain ⟨⟨r,os⟩,w2⟩:=x
 split
 ·exact bO _
 ·rename_i h2
  simp only [bI] at h2
  obtain ⟨⟨_,_⟩,rfl⟩:=h2
  exact h
def xD {ε α β:Type} {m:Except ε α} {f:α→Except ε β} {r:β} (h:(m>>=f)=.ok r): ∃a,m=.ok a∧f a=.ok r:=by
 cases m with
 |error e=>cases h
 |ok a=>exact ⟨a,rfl,h⟩
def CM {p:Program} {w w':World} {at_ k:Addr} {u:TypeId} {v:Value} {b:Bool} {l:List Addr} (h:w.viewStore p at_ u k v b=.ok (w',l)):w'.drawn=w.drawn:=by
 unfold World.viewStore at h
 dsimp only at h
 split at h
 ·exact qra
 ·obtain ⟨⟨c,e,fr,first,aqU,cells⟩,_,h⟩:=xD h
  dsimp only at h
  split at h
  ·split at h
   ·exact qra
   ·obtain ⟨c2,_,h⟩:=xD h
    have h2:(({w with heap:=w.heap.setIfInBounds at_.block (.cells c2 e fr)},_):World×List Addr)=(w',l):=Except.ok.inj h
    rw [← (Prod.mk.inj h2).1]
  ·cases h
def wA {α:Type} (m:Sem α): ∀ {w w':World} {a:α},m.run P w=.ok a w'→w.drawn≤w'.drawn:=by
 induction m with
 |pure a=>intro w w' b h;rw [Sem.run] at h;cases h;exact bO _
 |load m a k ih=>
  intro w w' b h
  rw [Sem.run] at h
  split at h
  ·exact ih _ h
  ·split at h
   ·exact ih _ h
   ·cases h
 |store m a v k ih=>
  intro w w' b h
  have h0:(∃x,v=.agg x)∨(∃x,v=.tuple x)∨((∀x,v≠.agg x)∧ ∀x,v≠.tuple x):=by cases v<;>simp
  rcases h0 with ⟨x,rfl⟩|⟨x,rfl⟩|⟨h1,h2⟩
  ·rw [Sem.run] at h;cases h
  ·rw [Sem.run] at h;cases h
  rw [Sem.run] at h
  rotate_left
  ·exact h1
  ·exact h2
  split at h
  ·split at h
   ·cases h
   ·have h2:=ih h;exact h2
  ·split at h
   ·rename_i w2 _ hf
    have h3:w2.drawn=w.drawn:=by
     unfold World.farStore at hf
     split at hf
     ·split at hf
      ·rename_i r hv
       cases hf
       exact CM hv
      ·cases hf
     ·cases hf
    exact h3▸ih h
   ·cases h
 |new o k ih=>intro w w' b h;rw [Sem.run] at h;have h2:=ih _ h;exact h2
 |shape r k ih=>intro w w' b h;rw [Sem.run] at h;exact ih _ h
 |freeze a n k ih=>
  intro w w' b h;rw [Sem.run] at h
  refine eF (Nat.le_of_eq ?_) (ih h)
  unfold World.freeze
  split<;>rfl
 |frozen a k ih=>intro w w' b h;rw [Sem.run] at h;exact ih _ h
 |getObj r k ih=>
  intro w w' b h;rw [Sem.run] at h
  split at h
  ·cases h
  ·exact ih _ h
  ·cases h
 |setObj r o k ih=>
  intro w w' b h;rw [Sem.run] at h
  split at h
  ·cases h
  ·have h2:=ih h;exact h2
  ·cases h
 |choose q k ih=>
  intro w w' b h;rw [Sem.run] at h
  split at h
  ·exact ih _ h
  ·have h2:=ih _ h;exact eF (Nat.le_succ _) h2
 |sys c k ih=>intro w w' b h;rw [Sem.run] at h;exact eF (F6 w c) (ih _ h)
 |program k ih=>intro w w' b h;rw [Sem.run] at h;exact ih _ h
 |mark m k ih=>intro w w' b h;rw [Sem.run] at h;exact ih h
 |halt h=>intro w w' b h;rw [Sem.run] at h;cases h
structure Ck where
 F:Nat→Prop
 P:World→Prop
 loc: ∀w w',(∀b,F b→w'.heap[b]? =w.heap[b]?)→P w→P w'
structure Ch (U:Nat→Prop) (w w':World):Prop where
 os:w'.os=w.os
 tape:w'.tape=w.tape
 output:w'.output=w.output
 size:w.heap.size≤w'.heap.size
 block: ∀b,b<w.heap.size→ ¬U b→w'.heap[b]? =w.heap[b]?
 dr:w.drawn≤w'.drawn
def No:Nat→Prop:=fun _=>False
def Ch.refl (U:Nat→Prop) (w:World):Ch U w w:=⟨rfl,rfl,rfl,bO _,fun _ _ _=>rfl,bO _⟩
def Ch.trans {U:Nat→Prop} {w w1 w2:World} (h:Ch U w w1) {U':Nat→Prop} (k:Ch U' w1 w2) (hu: ∀b,b<w.heap.size→U' b→U b):Ch U w w2:=
 ⟨k.os.trans h.os,k.tape.trans h.tape,k.output.trans h.output,eF h.size k.size,fun b hb hn=>(k.block b (dY hb h.size) (fun hU=>hn (hu b hb hU))).trans (h.block b hb hn),eF h.dr k.dr⟩
def Ch.mono {U U':Nat→Prop} {w w':World} (h:Ch U w w') (hu: ∀b,b<w.heap.size→U b→U' b):Ch U' w w':=
 ⟨h.os,h.tape,h.output,h.size,fun b hb hn=>h.block b hb (fun hU=>hn (hu b hb hU)),h.dr⟩
def Ch.no {U:Nat→Prop} {w w':World} (h:Ch No w w'):Ch U w w':=h.mono fun _ _ hf=>hf.elim
def Ch.below {w w':World} (h:Ch No w w'):Below w.heap.size w w':=⟨h.os,h.tape,h.output,h.size,fun k hk=>h.block k hk id⟩
def Ch.drew (U:Nat→Prop) (w:World):Ch U w w.drew:=⟨rfl,rfl,rfl,bO _,fun _ _ _=>rfl,Nat.le_succ _⟩
def Ch.cell {U:Nat→Prop} {w w':World} (h:Ch U w w') {a:Addr} {v:Value} (hc:w.cell? a=some v) (hn: ¬U a.block):w'.cell? a=some v:=
 (World.cell?_of_block (h.block a.block (World.block_lt_of_cell? w a hc) hn)).trans hc
structure St (U:Nat→Prop) (w0 w:World) (H:List Ck):Prop where
 ch:Ch U w0 w
 all: ∀c∈H,c.P w
 nC: ∀c∈H,∀b,c.F b→b<w.heap.size∧(U b∨w0.heap.size≤b)
 apart:H.Pairwise (fun c d=> ∀b,c.F b→d.F b→False)
section
variable {U:Nat→Prop} {w0:World} {H:List Ck}
def St.start (U:Nat→Prop) (w:World):St U w w []:=⟨Ch.refl _ _,(fun _ h=>by cases h),(fun _ h=>by cases h),List.Pairwise.nil⟩
def St.get (h:St U w0 w H) {i:Nat} {c:Ck} (hi:H[i]? =some c):c.P w:=h.all c (aI hi)
def St.aE {w':World} (h:St U w0 w H) (hc:Ch No w w'):St U w0 w' H:=
 ⟨h.ch.trans hc (fun _ _ hf=>hf.elim),fun c hm=>c.loc w w' (fun b hb=>hc.block b (h.nC c hm b hb).1 id) (h.all c hm),fun c hm b hb=>⟨dY (h.nC c hm b hb).1 hc.size,(h.nC c hm b hb).2⟩,h.apart⟩
def St.drew (h:St U w0 w H):St U w0 w.drew H:=h.aE (Ch.drew _ _)
def St.new {w':World} (h:St U w0 w H) (hc:Ch No w w') (c:Ck) (hp:c.P w') (hf: ∀b,c.F b→w.heap.size≤b∧b<w'.heap.size):St U w0 w' (c::H):=by
 have hk:=h.aE hc
 refine ⟨hk.ch,fun d hm=>?_,fun d hm b hb=>?_,List.Pairwise.cons (fun d hm b hb hd=>?_) hk.apart⟩
 ·rcases dx.1 hm with rfl|hm
  ·exact hp
  ·exact hk.all d hm
 ·rcases dx.1 hm with rfl|hm
  ·exact ⟨(hf b hb).2,.inr (eF h.ch.size (hf b hb).1)⟩
  ·exact hk.nC d hm b hb
 ·have h1:=(h.nC d hm b hd).1
  have h2:=(hf b hb).1
  omega
def St.upd {w':World} (h:St U w0 w H) {i:Nat} {c:Ck} (hi:H[i]? =some c) (hc:Ch c.F w w') (c':Ck) (hp:c'.P w') (hf: ∀b,c'.F b→c.F b∨(w.heap.size≤b∧b<w'.heap.size)):St U w0 w' (H.set i c'):=by
 have hl:i<H.length:=(aN.1 hi).1
 have hci:H[i]=c:=(aN.1 hi).2
 have CN:c∈H:=aI hi
 have hap:=List.pairwise_iff_getElem.1 h.apart
 have CO: ∀(j:Nat) (hj:j<H.length),j≠i→ ∀b,H[j].F b→c.F b→False:=by
  intro j hj rz b hb Nb
  rcases Nat.lt_or_gt_of_ne rz with l8|hgt
  ·exact hap j i hj hl l8 b hb (by rw [hci];exact Nb)
  ·exact hap i j hl hj hgt b (by rw [hci];exact Nb) hb
 have adv: ∀b,c'.F b→b<w'.heap.size∧(U b∨w0.heap.size≤b):=by
  intro b hb
  rcases hf b hb with h1|⟨h1,h2⟩
  ·exact ⟨dY (h.nC c CN b h1).1 hc.size,(h.nC c CN b h1).2⟩
  ·exact ⟨h2,.inr (eF h.ch.size h1)⟩
 refine ⟨h.ch.trans hc (fun b hb Nb=>?_),fun d hm=>?_,fun d hm b hb=>?_,?_⟩
 ·rcases (h.nC c CN b Nb).2 with h1|h1
  ·exact h1
  ·omega
 ·rw [List.mem_iff_getElem] at hm
  obtain ⟨j,hj,rfl⟩:=hm
  rw [cX] at hj
  by_cases oL:j=i
  ·subst oL
   rw [List.getElem_set_self]
   exact hp
  ·rw [List.getElem_set_ne (Ne.symm oL)]
   exact (H[j]).loc w w' (fun b hb=>hc.block b (h.nC _ (List.getElem_mem hj) b hb).1 (fun Nb=>CO j hj oL b hb Nb)) (h.all _ (List.getElem_mem hj))
 ·rw [List.mem_iff_getElem] at hm
  obtain ⟨j,hj,rfl⟩:=hm
  rw [cX] at hj
  by_cases oL:j=i
  ·subst oL
   rw [List.getElem_set_self] at hb
   exact adv b hb
  ·rw [List.getElem_set_ne (Ne.symm oL)] at hb
   exact ⟨dY (h.nC _ (List.getElem_mem hj) b hb).1 hc.size,(h.nC _ (List.getElem_mem hj) b hb).2⟩
 ·rw [List.pairwise_iff_getElem]
  intro j k pQ XN XO b I9 vy
  have hj:j<H.length:=by rw [cX] at pQ;exact pQ
  have hk:k<H.length:=by rw [cX] at XN;exact XN
  by_cases oL:j=i
  ·subst oL
   rw [List.getElem_set_self] at I9
   rw [List.getElem_set_ne (by omega)] at vy
   rcases hf b I9 with h1|⟨h1,_⟩
   ·exact CO k hk (by omega) b vy h1
   ·have:=(h.nC _ (List.getElem_mem hk) b vy).1;omega
  ·rw [List.getElem_set_ne (Ne.symm oL)] at I9
   by_cases XP:k=i
   ·subst XP
    rw [List.getElem_set_self] at vy
    rcases hf b vy with h1|⟨h1,_⟩
    ·exact CO j hj oL b I9 h1
    ·have:=(h.nC _ (List.getElem_mem hj) b I9).1;omega
   ·rw [List.getElem_set_ne (Ne.symm XP)] at vy
    exact hap j k hj hk XO b I9 vy
def St.sub (h:St U w0 w H) {H':List Ck} (hs:H'.Sublist H):St U w0 w H':=
 ⟨h.ch,fun c hm=>h.all c (hs.subset hm),fun c hm=>h.nC c (hs.subset hm),h.apart.sublist hs⟩
def St.perm (h:St U w0 w H) {H':List Ck} (hs:H'.Perm H):St U w0 w H':=
 ⟨h.ch,fun c hm=>h.all c (hs.subset hm),fun c hm=>h.nC c (hs.subset hm),(hs.pairwise_iff (fun wB b h1 h2=>wB b h2 h1)).2 h.apart⟩
def St.old (h:St U w0 w H) {a:Addr} {v:Value} (hc:w0.cell? a=some v) (hn: ¬U a.block):w.cell? a=some v:=h.ch.cell hc hn
end
def pH (g:Nat) (t:TypeId) (cs:List Value):Ck where
 F:=fun b=>b=g
 P:=fun w=>w.heap[g]? =some (.cells cs.toArray t (0,0))
 loc:=fun _ _ h hp=>(h g rfl).trans hp
def Row (e:TypeId) (sz:Nat) (v:Value) (m:Nat) (cs:List Value):Ck where
 F:=fun b=>v.ownBlock=some b
 P:=fun w=>w.ownsRow 0 e sz v m cs
 loc:=fun w w' h hp=>by
  obtain ⟨h1,h2⟩:=hp
  refine ⟨h1,?_⟩
  rcases h2 with h2|⟨g,cap,cur,hv,hb,hg,h3⟩
  ·exact .inl h2
  ·exact .inr ⟨g,cap,cur,hv,hb,(h g (by rw [hv];rfl)).trans hg,h3⟩
def pH.cell {g:Nat} {t:TypeId} {cs:List Value} (h:(pH g t cs).P w) {j:Nat} {v:Value} (hj:cs[j]? =some v):w.cell? ⟨g,j,none⟩=some v:=by
 have h':w.heap[g]? =some (.cells cs.toArray t (0,0)):=h
 simp [World.cell?,h',hj]
def pH.frozen {g:Nat} {t:TypeId} {cs:List Value} (h:(pH g t cs).P w) (j:Nat):w.frozen? ⟨g,j,none⟩=false:=by
 have h':w.heap[g]? =some (.cells cs.toArray t (0,0)):=h
 simp [World.frozen?,h']
def Ch.alloc (w:World) (o:Obj):Ch No w (w.alloc o):=⟨rfl,rfl,rfl,by simp,fun b hb _=>heap_alloc_old w o b hb,bO _⟩
def pH.alloc {U:Nat→Prop} {w0:World} {H:List Ck} (h:St U w0 w H) (t:TypeId) (cs:List Value):St U w0 (w.alloc (.cells cs.toArray t)) (pH w.heap.size t cs::H):=
 h.new (Ch.alloc _ _) _ (heap_alloc_new w _) (fun b hb=>qmm)
variable {U:Nat→Prop} {w0:World} {H:List Ck}
end
section
variable {P:Program} {n:Nat} {ops:Array Oper} {Q:Exit→Act→World→Prop} {w:World} {L:Env}
abbrev kG:=List (List Nat×List Nat)
def kG.j7 (T:kG) (i:Nat):List Nat:=(T.getD i ([],[])).1
def kG.keys (T:kG) (i:Nat):List Nat:=(T.getD i ([],[])).2
def prune (keys:List Nat) (L:Env):Env:=keys.filterMap fun k=>(L.get k).map fun v=>(k,v)
def cI (ops:Array Oper) (T:kG) (L:Env) (vs:Nat→Value) (i:Nat):Env:=((T.j7 i).filterMap fun j=>(eN ops j).map fun d=>(d,vs j))++prune (T.keys i) L
def has (l:List Nat) (j:Nat):Bool:=l.any fun x=>Nat.beq x j
def jj (a b:Option Nat):Bool:=match a,b with|some x,some y=>Nat.beq x y|_,_=>false
def FY (n:Nat) (ops:Array Oper) (T:kG):Bool:=
 let m:=ops.size
 ((List.range m).all fun i=>match ops[i]?with
  |none=>false
  |some o=>
   iU n ops i&&
   (o.after.toList.all fun e=> !Region.binds .any e||Nat.blt e.on i)&&
   ((T.j7 i).all fun j=>o.after.toList.any fun e=>Region.binds .any e&&(Nat.beq e.on j||has (T.j7 e.on) j))&&
   ((T.keys i).all fun k=>(List.range m).all fun j=> !jj (eN ops j) (some k)||Nat.beq j i||has (T.j7 j) i)&&
   ((List.range m).all fun j=>Nat.beq j i|| !jj (eN ops j) (eN ops i)))&&
 ((T.keys m).all fun k=>(List.range m).all fun j=> !jj (eN ops j) (some k))&&((T.j7 m).all fun j=>Nat.blt j m)
def dq {l:List Nat} {j:Nat}:has l j=true↔j∈l:=by
 simp [has,List.any_eq_true]
def nL {a b:Option Nat}:jj a b=true↔ ∃x,a=some x∧b=some x:=by
 cases a with
 |none=>simp [jj]
 |some x=>
  cases b with
  |none=>simp [jj]
  |some y=>
   refine ⟨fun h=>⟨x,rfl,by rw [dh h]⟩,?_⟩
   rintro ⟨z,hx,hy⟩
   cases hx
   cases hy
   exact Nat.beq_refl _
def Env.get_mem: ∀ {L:Env} {t:Nat} {v:Value},L.get t=some v→(t,v)∈L
 | [],_,_,h=>by simp [Env.get] at h
 |(k,u)::r,t,v,h=>by
  rw [Env.sY] at h
  by_cases e:k=t
  ·subst e
   simp only [if_true,a9] at h
   subst h
   exact cE
  ·rw [if_neg e] at h
   exact bH _ (Env.get_mem h)
def jZ (p:Nat→Prop):Nat→Prop
 |0=>True
 |m+1=>jZ p m∧p m
def jZ.get {p:Nat→Prop}: ∀ {m i:Nat},jZ p m→i<m→p i
 |m+1,i,h,hi=>by
  rcases Nat.lt_or_ge i m with l8|hge
  ·exact h.1.get l8
  ·have:i=m:=by omega
   subst this
   exact h.2
end
