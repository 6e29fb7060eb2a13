/- For the law of worlds: The engine. -/
import Derived.Test.YtfookmefmjhonaaGreatZ05
set_option linter.all false
namespace Go.bE
open Go.RowKit
section
variable {P:Program} {n:Nat} {U:Nat→Prop} {w0 w:World} {Q:Exit→Act→World→Prop} {s:S}
def N7 (acc:List Nat) (o:Oper):Nat:=o.after.toList.foldl (fun m e=>bif Region.binds .any e then Nat.lor m (Nat.lor (Nat.shiftLeft 1 e.on) (acc.getD e.on 0)) else m) 0
def I5 (ops:List Oper):List Nat:=ops.foldl (fun acc o=>acc++ [N7 acc o]) []
def bits (m k:Nat):List Nat:=(List.range k).filter fun i=>Nat.beq (Nat.land (Nat.shiftRight m i) 1) 1
def N8 (o:Oper):List Nat:=o.op.operands.toList.filterMap fun x=>match x with|.tmp t=>some t|_=>none
def dedup:List Nat→List Nat
 | []=> []
 |x::l=>bif has l x then dedup l else x::dedup l
def r7 (ops:Array Oper) (L:Env):kG:=
 ((I5 ops.toList).zip ops.toList).map (fun p=>(bits p.1 ops.size,(N8 p.2).filter fun t=> !(bits p.1 ops.size).any fun j=>jj (eN ops j) (some t)))++
  [((List.range ops.size).filter fun j=>(eN ops j).isSome,(dedup (L.map (·.1))).filter fun t=> !(List.range ops.size).any fun j=>jj (eN ops j) (some t))]
def S.iz (s:S):Array Oper:=match s.ks with|.c (.region _ ops true)::_=>ops|_=> #[]
def S.rks (s:S):List Kt:=match s.ks with|.c (.region _ _ true)::ks=>ks|_=> []
def S.xz (s:S):Bool:=match s.ks with|.c (.region _ _ true)::_=>true|_=>false
def S.mI (s:S):kG:=r7 s.iz s.L
def S.env (s:S) (V:List Value) (i:Nat):Env:=cI s.iz s.mI s.L (vl V) i
def jw (P:Program) (n:Nat) (ops:Array Oper) (H:List HB) (L:Env) (hs:List Nat) (i:Nat):Option (Value×List Nat×Nat×Nat):=
 bif iU n ops i then
  match ops[i]?with
  |none=>none
  |some o=>match gT ops L o with
   |some false=>some (undef,hs,0,0)
   |some true=>bif L.jk o then
    match o.op with
    |.load t x=>jP P H t (L.ev x) hs
    |.store .. =>none
    |_=>match CE P L o.op with
     |some v=>some (v,hs,0,0)
     |none=>match bc P (ex L (o.op,o.type)) with
      |some (.value v)=>some (v,hs,0,0)
      |some .skip=>some (undef,hs,0,0)
      |_=>none
    else none
   |none=>none
 else none
def zS {ops:Array Oper} {H:List HB} {L:Env} {hs hN:List Nat} {i b g:Nat} {v:Value} (h:jw P n ops H L hs i=some (v,hN,b,g)) (he:b=g) (hS:SH U w0 w H):One P n ops Q i L w fun u w'=>u=v∧w'=w:=by
 unfold jw at h
 cases hd:iU n ops i with
 |false=>rw [hd] at h;cases h
 |true=>
  rw [hd,cond_true] at h
  cases ho:ops[i]?with
  |none=>rw [ho] at h;cases h
  |some o=>
   rw [ho] at h
   simp only at h
   cases hw:gT ops L o with
   |none=>rw [hw] at h;cases h
   |some q=>
    rw [hw] at h
    cases q with
    |false=>
     simp only [a9,bI] at h
     obtain ⟨rfl,_,_,_⟩:=h
     exact tw (v:=undef) (by simp [pd,ho,hw]) ⟨rfl,rfl⟩
    |true=>
     simp only at h
     cases hA:L.jk o with
     |false=>rw [hA] at h;cases h
     |true=>
      rw [hA,cond_true] at h
      have hx:ef ops L i=some (o.op,o.type):=by simp [ef,ho,hw,hA]
      split at h
      ·rename_i t x gX
       rw [gX] at hx
       obtain ⟨a,h4,h5⟩:=rv h he hS
       exact pO hx h4 h5 ⟨rfl,rfl⟩
      ·cases h
      ·split at h
       ·rename_i u hq
        simp only [a9,bI] at h
        obtain ⟨rfl,_,_,_⟩:=h
        have:=tx (P:=P) (n:=n) (Q:=Q) (U:=No) (w0:=w) (H:= []) hx hq (SS.nil No w)
        unfold CE at hq
        split at hq
        ·rename_i t x y t2 gX
         rw [gX] at hx
         split at hq
         ·rename_i xs ys h1 h2
          exact qe7
         ·cases hq
        ·rename_i t x y t2 gX
         rw [gX] at hx
         split at hq
         ·rename_i xs ys h1 h2
          exact qe6
         ·cases hq
        ·cases hq
       ·split at h
        ·rename_i u hp
         simp only [a9,bI] at h
         obtain ⟨rfl,_,_,_⟩:=h
         exact qo4
        ·rename_i hp
         simp only [a9,bI] at h
         obtain ⟨rfl,_,_,_⟩:=h
         exact jQ hx (eO hp w) ⟨rfl,rfl⟩
        ·cases h
abbrev I6:=List (Nat×Value)
def I6.at:I6→Nat→Option Value
 | [],_=>none
 |(j,v)::r,i=>bif Nat.beq j i then some v else I6.at r i
def sB (P:Program) (n:Nat) (ops:Array Oper) (H:List HB) (L:Env) (T:kG) (orc:I6):Nat→Nat→List Nat→List Value→Option (List Value×List Nat×List Nat)
 |0,_,_,V=>some (V,[],[])
 |k+1,i,hs,V=>match orc.at i with
  |some v=>sB P n ops H L T orc k (i+1) hs (V++ [v])
  |none=>match jw P n ops H (cI ops T L (vl V) i) hs i with
   |some (v,hN,b,g)=>match sB P n ops H L T orc k (i+1) hN (V++ [v]) with
    |some (W,x,y)=>some (W,b::x,g::y)
    |none=>none
   |none=>none
def qL:Option (List Value×List Nat×List Nat)→List Nat|some x=>x.2.1|none=> [0]
def qR:Option (List Value×List Nat×List Nat)→List Nat|some x=>x.2.2|none=> [1]
def S.sB (P:Program) (n:Nat) (s:S) (orc:I6) (hs:List Nat):Option (List Value×List Nat×List Nat):=bE.sB P n s.iz s.H s.L s.mI orc s.iz.size 0 hs []
def S.qV (P:Program) (n:Nat) (s:S) (orc:I6) (hs:List Nat):List Value:=((s.sB P n orc hs).getD ([],[],[])).1
def S.qnx (s:S) (V:List Value):S:=⟨s.env V s.iz.size,s.H,s.rks⟩
structure vw (P:Program) (n:Nat) (U:Nat→Prop) (w0:World) (s:S) (V:List Value) (i:Nat) (v:Value):Prop where
 go: ∀Q' w K,SS U w0 w (s.H.map HB.gf++K)→One P n s.iz Q' i (s.env V i) w fun u w'=>u=v∧SS U w0 w' (s.H.map HB.gf++K)
def xA (P:Program) (n:Nat) (U:Nat→Prop) (w0:World) (s:S) (V:List Value):I6→Prop
 | []=>True
 |(i,v)::r=>vw P n U w0 s V i v∧xA P n U w0 s V r
def xA.get {V:List Value}: ∀ {orc:I6} {i:Nat} {v:Value},xA P n U w0 s V orc→orc.at i=some v→vw P n U w0 s V i v
 |(j,u)::r,i,v,h,hi=>by
  simp only [I6.at] at hi
  cases hb:Nat.beq j i with
  |true=>
   exact qjm
  |false=>
   rw [hb] at hi
   exact h.2.get hi
def jR {ops:Array Oper} {T:kG} {L:Env} {vs us:Nat→Value} {i:Nat} (h: ∀j,has (T.j7 i) j=true→vs j=us j):cI ops T L vs i=cI ops T L us i:=by
 unfold cI
 congr 1
 have hc: ∀l:List Nat,(∀j∈l,vs j=us j)→(l.filterMap fun j=>(eN ops j).map fun d=>(d,vs j))=l.filterMap fun j=>(eN ops j).map fun d=>(d,us j):=by
  exact qgl
 exact qrc
def og {ops:Array Oper} {T:kG} (h2:FY n ops T=true): ∀i,i<ops.size→ ∀j,j∈T.j7 i→j<i:=by
 simp only [FY,da,dE,List.mem_range] at h2
 intro i
 induction i using Nat.strongRecOn with
 |_ i ih=>
  intro hi j hj
  have h:=h2.1.1 i hi
  exact qce
def Ep {ops:Array Oper} {H:List HB} {L:Env} {T:kG} {orc:I6}: ∀ {k i:Nat} {hs:List Nat} {V W:List Value} {x y:List Nat},sB P n ops H L T orc k i hs V=some (W,x,y)→x=y→V.length=i→
 W.length=i+k∧(∃M,W=V++M)∧ ∀j,i≤j→j<i+k→(orc.at j=some (vl W j))∨(orc.at j=none∧ ∃hs hN b,jw P n ops H (cI ops T L (vl (W.take j)) j) hs j=some (vl W j,hN,b,b))
 |0,i,hs,V,W,x,y,h,_,hl=>by
  simp only [sB,a9,bI] at h
  obtain ⟨rfl,_,_⟩:=h
  exact ⟨by omega,⟨[],by simp⟩,fun j h1 h2=>by omega⟩
 |k+1,i,hs,V,W,x,y,h,he,hl=>by
  have key: ∀ {v:Value} {hN:List Nat} {x' y':List Nat},sB P n ops H L T orc k (i+1) hN (V++ [v])=some (W,x',y')→x'=y'→W.length=i+(k+1)∧(∃M,W=V++M)∧vl W i=v∧W.take i=V∧ ∀j,i+1≤j→j<i+1+k→(orc.at j=some (vl W j))∨(orc.at j=none∧ ∃hs hN b,jw P n ops H (cI ops T L (vl (W.take j)) j) hs j=some (vl W j,hN,b,b)):=by
   intro v hN x' y' hr hxy
   obtain ⟨h1,⟨M,hM⟩,h3⟩:=Ep hr hxy (by simp [hl])
   refine ⟨by omega,⟨[v]++M,by rw [hM,cH]⟩,?_,?_,h3⟩
   ·subst hM;subst hl
    unfold vl
    rw [bA,cH,gD (bO _)]
    simp
   ·subst hM;subst hl
    rw [cH]
    simp
  simp only [sB] at h
  split at h
  ·rename_i v hv
   obtain ⟨h1,h2,h3,h4,h5⟩:=key h he
   refine ⟨h1,h2,fun j hj hj2=>?_⟩
   rcases Nat.eq_or_lt_of_le hj with e|e
   ·subst e;rw [h3];exact .inl hv
   ·exact h5 j e (by omega)
  ·rename_i hv
   split at h
   ·rename_i v hN b g hq
    split at h
    ·rename_i W' x' y' hr
     simp only [a9,bI] at h
     obtain ⟨rfl,rfl,rfl⟩:=h
     simp only [List.cons.injEq] at he
     obtain ⟨rfl,he⟩:=he
     obtain ⟨h1,h2,h3,h4,h5⟩:=key hr he
     refine ⟨h1,h2,fun j hj hj2=>?_⟩
     rcases Nat.eq_or_lt_of_le hj with e|e
     ·subst e;rw [h3,h4];exact .inr ⟨hv,_,_,_,hq⟩
     ·exact h5 j e (by omega)
    ·cases h
   ·cases h
def aK (orc:I6) (hs:List Nat) (ho:xA P n U w0 s (s.qV P n orc hs) orc) (k:G P n U w0 Q (s.qnx (s.qV P n orc hs))) (h:(s.xz,FY n s.iz s.mI,P.follows .mixedOrders,qL (s.sB P n orc hs))=(true,true,true,qR (s.sB P n orc hs)):=by kernel_rfl):G P n U w0 Q s:=by
 simp only [bI] at h
 obtain ⟨h1,h2,hm,h3⟩:=h
 refine ⟨fun w hS a ha=>?_⟩
 cases hq:s.sB P n orc hs with
 |none=>rw [hq] at h3;simp [qL,qR] at h3
 |some r=>
  obtain ⟨V,x,y⟩:=r
  rw [hq] at h3
  simp only [qL,qR] at h3
  have hV:s.qV P n orc hs=V:=by simp [S.qV,hq]
  rw [hV] at ho k
  obtain ⟨hlen,_,iF⟩:=Ep (P:=P) (n:=n) (ops:=s.iz) (H:=s.H) (L:=s.L) (T:=s.mI) (orc:=orc) (k:=s.iz.size) (i:=0) (hs:=hs) (V:= []) hq h3 rfl
  have CF:=og h2
  obtain ⟨L,H,ks⟩:=s
  unfold S.xz at h1
  split at h1
  ·rename_i id ops mW lq
   simp only at lq
   subst lq
   have hr:(S.mk L H (.c (.region id ops true)::mW)).iz=ops:=rfl
   have pP: ∀i,i≤ops.size→i<ops.size→cI ops (r7 ops L) L (vl (V.take i)) i=cI ops (r7 ops L) L (vl V) i:=fun i _ hi=>jR fun j hj=>by
    have oL:=CF i hi j (dq.1 hj)
    unfold vl
    rw [bA,bA,List.getElem?_take,if_pos oL]
   let CK:List aM:= [aM.all (H.map HB.gf)]
   let M:Mv:=List.replicate ops.size ([],[],[0])
   have Na: ∀i,i<ops.size→M.getD i ([],[],[])=([],[],[0]):=fun i hi=>by simp [M,bA,hi]
   have I7:Mv.ok M (r7 ops L) [(none,none)] ops.size=true:=by
    refine dE.2 fun i hi=>?_
    rw [Na i (List.mem_range.1 hi)]
    simp [fS,lr,stays,Rs.prod,Rs.cons,Wn]
   refine S7 (Q:=DK P Q mW) (U:=U) (w0:=w0) (r7 ops L) [(none,none)] M V CK ops.size [0] [0] [] (List.range ops.size) hm ?_ [] rfl rfl ?_ ?_ ?_ a ha
   ·simp only [da]
    refine ⟨⟨⟨⟨⟨⟨⟨⟨Nat.beq_refl _,h2⟩,by simp [XK,Rs.prod,Rs.cons]⟩,I7⟩,rfl⟩,rfl⟩,rfl⟩,?_⟩,rfl⟩
    refine dE.2 fun i hi=>?_
    simp [dq.2 hi]
   ·exact SS.tz (H:=H.map HB.gf) (K:= []) (by rw [fj];exact SS.drew hS)
   ·have zT: ∀i,i<ops.size→ObC P n ops (DK P Q mW) (r7 ops L) L M V CK U w0 i:=by
     intro i hi wi K hSi
     rw [Na i hi] at hSi⊢
     have CG:SS U w0 wi (H.map HB.gf++K):=SS.all hSi
     rcases iF i (bh _) (by rw [Nat.zero_add];exact hi) with hv|⟨_,S8,lu,b,hv⟩
     ·refine ((ho.get hv).go (DK P Q mW) wi K CG).mono fun u w' h=>⟨h.1,?_⟩
      exact SS.tz h.2
     ·have hv':jw P n ops H (cI ops (r7 ops L) L (vl V) i) S8 i=some (vl V i,lu,b,b):=by
       rw [← pP i (Nat.le_of_lt hi) hi];exact hv
      refine (zS (Q:=DK P Q mW) hv' rfl CG.front).mono fun u w' h=>⟨h.1,?_⟩
      rw [h.2]
      exact SS.tz CG
    have: ∀l:List Nat,(∀i∈l,i<ops.size)→zU (ObC P n ops (DK P Q mW) (r7 ops L) L M V CK U w0) l:=by
     intro l
     induction l with
     |nil=>intro _;trivial
     |cons i l ih=>exact fun hl=>⟨zT i (hl i cE),ih fun j hj=>hl j (bH _ hj)⟩
    exact this _ fun i hi=>List.mem_range.1 hi
   ·intro w' xB a' N9
    exact k.go w' (by
     have:=SS.all (K:= []) xB
     rw [fj] at this
     exact this) a' N9
  ·cases h1
def S.qx {α:Type} (s:S) (V:List Value) (i:Nat) (f:Env→Op×TypeId→Option α):Option α:=(ef s.iz (s.env V i) i).bind (f (s.env V i))
def S.dU {α:Type} {V:List Value} {i:Nat} {f:Env→Op×TypeId→Option α} {r:α} (h:s.qx V i f=some r): ∃x,ef s.iz (s.env V i) i=some x∧f (s.env V i) x=some r:=Option.bind_eq_some_iff.1 h
def bF {V:List Value} {i:Nat} (A:OA) (len:Nat) (j:Int) (sz:Nat) (hA: ∀w,SH U w0 w s.H→A.isSome=true) (h:s.qx V i (I8 P)=some (A,len,j,sz):=by kernel_rfl) (hj:0≤j∧j<len:=by omega):vw P n U w0 s V i (.pointer (some ((cz A).add (j.toNat*sz)))):=by
 obtain ⟨x,hx,h1⟩:=S.dU h
 exact ⟨fun Q' w K hS=>xC hx h1 hj (hA w hS.front) ⟨rfl,hS⟩⟩
def cB {V:List Value} {i:Nat} {v:Value} (t:TypeId) (a:Addr) (hv: ∀w,SH U w0 w s.H→(loadVar t a).run P w=.ok v w) (h:s.qx V i XL=some (t,a):=by kernel_rfl):vw P n U w0 s V i v:=by
 obtain ⟨x,hx,h1⟩:=S.dU h
 exact ⟨fun Q' w K hS=>CH hx h1 (hv w hS.front) ⟨rfl,hS⟩⟩
def wx (P:Program) (L:Env) (x:Op×TypeId):Option (FuncId×Array Value):=match bc P (ex L x) with|some (.enter f args)=>some (f,args)|_=>none
def bT {V:List Value} {i:Nat} {v:Value} {f:FuncId} {args:Array Value} {jx:World→Prop} {R:Value→List aM→Prop} (ct:Ct P f args jx [] R) (hv: ∀u C,R u C→u=v) (h:s.qx V i (wx P)=some (f,args):=by kernel_rfl) (hp: ∀w,SH U w0 w s.H→jx w:=by intro _ _;trivial):vw P n U w0 s V i v:=by
 obtain ⟨x,hx,h1⟩:=S.dU h
 refine ⟨fun Q' w K hS=>?_⟩
 unfold wx at h1
 split at h1
 ·rename_i f' tA hr
  simp only [a9,bI] at h1
  obtain ⟨rfl,rfl⟩:=h1
  exact CI x tA hx hr ct (hp w hS.front) (C:= []) hS fun u C' w' hR hs=>⟨hv u C' hR,(hs.perm List.perm_append_comm).front⟩
 ·cases h1
def CJ (P:Program) (L:Env) (x:Op×TypeId):Option Value:=match CE P L x.1 with
 |some v=>some v
 |none=>match bc P (ex L x) with|some (.value v)=>some v|_=>none
def dv {V:List Value} {i:Nat} {v:Value} (old:Value) (e:old=v) (h:s.qx V i (CJ P)=some old:=by kernel_rfl):vw P n U w0 s V i v:=by
 subst e
 obtain ⟨⟨op,ty⟩,hx,h1⟩:=S.dU h
 refine ⟨fun Q' w K hS=>?_⟩
 unfold CJ at h1
 split at h1
 ·rename_i u hq
  simp only [a9] at h1
  subst h1
  have h2:=tx (P:=P) (n:=n) (Q:=Q') (U:=U) (w0:=w0) (H:=(s.H++K.map .k)) hx hq (by unfold SH;rw [cT,Er];exact hS)
  refine h2.mono fun v w' h=>⟨h.1,?_⟩
  have:=h.2
  unfold SH at this
  rwa [cT,Er] at this
 ·split at h1
  ·rename_i u hp
   simp only [a9] at h1
   subst h1
   exact qpe
  ·cases h1
def fM {V:List Value} {i:Nat} (x:Int) (e: -9223372036854775808≤x∧x≤9223372036854775807:=by omega) (h:s.qx V i (CJ P)=some (.int .i64 (IntKind.i64.wrap x)):=by kernel_rfl):vw P n U w0 s V i (.int .i64 x):=dv (h:=h) _ (by rw [wrap_i64 e])
end
section
variable {P:Program} {n:Nat} {U:Nat→Prop} {w0 w:World} {Q:Exit→Act→World→Prop} {s:S}
structure Kd (α:Type) where
 e:TypeId
 sz:Nat
 f:α→List Value
 len: ∀x,(f x).length=sz
 one: ∀x,(f x).all (·.oneCell')=true
 pos:0<sz
abbrev Kd.row {α:Type} (K:Kd α) (A:OA) (c:Nat) (xs:List α):aM:=bE.row K.e K.sz (.slice A xs.length c) xs.length (xs.flatMap K.f)
abbrev Kd.Rd {α:Type} (K:Kd α) (A:OA) (xs:List α) (w:World):Prop:=Rc A (xs.flatMap K.f) w
section
variable {α:Type} {K:Kd α} {xs:List α}
def Kd.size (K:Kd α): ∀l:List α,(l.flatMap K.f).length=l.length*K.sz
 | []=>by simp
 |x::l=>by
  rw [iE,bm,K.len,Kd.size K l,dM,Nat.succ_mul]
  omega
def Kd.vF (K:Kd α) (l:List α):(l.flatMap K.f).all (·.oneCell')=true:=by
 refine dE.2 fun u hu=>?_
 obtain ⟨x,_,hx⟩:=List.mem_flatMap.1 hu
 exact dE.1 (K.one x) u hx
def Kd.part (K:Kd α) {k:Nat} {x:α} (h:xs[k]? =some x):xs.flatMap K.f=(xs.take k).flatMap K.f++(K.f x++(xs.drop (k+1)).flatMap K.f)∧((xs.take k).flatMap K.f).length=k*K.sz:=by
 have hk:k<xs.length:=(aN.1 h).1
 have hx:xs[k]=x:=(aN.1 h).2
 refine ⟨?_,by rw [K.size,b0,fD (Nat.le_of_lt hk)]⟩
 have e:xs=xs.take k++(x::xs.drop (k+1)):=by rw [← hx,← fI hk,List.take_append_drop]
 rw [congrArg (List.flatMap K.f) e,List.flatMap_append,iE]
def Kd.cell (K:Kd α) {k o:Nat} {x:α} {v:Value} (h:xs[k]? =some x) (hv:(K.f x)[o]? =some v):(xs.flatMap K.f)[k*K.sz+o]? =some v:=by
 obtain ⟨h1,h2⟩:=K.part h
 have ho:o<(K.f x).length:=(aN.1 hv).1
 rw [h1,gD (by omega),h2,Nat.add_sub_cancel_left,lW ho]
 exact hv
def Kd.cells (K:Kd α) {k o m:Nat} {x:α} {sub:List Value} (h:xs[k]? =some x) (hv:((K.f x).drop o).take m=sub) (hm:o+m≤K.sz):((xs.flatMap K.f).drop (k*K.sz+o)).take m=sub:=by
 obtain ⟨h1,h2⟩:=K.part h
 rw [h1,← List.drop_drop,List.drop_left' h2,qf (by rw [K.len];omega),nS (by rw [cL,K.len];omega)]
 exact hv
def Kd.ld1 {K:Kd α} {A:OA} {k o:Nat} {x:α} {t:TypeId} {v:Value} (h:K.Rd A xs w) (hx:xs[k]? =some x) (hv:(K.f x)[o]? =some v) (ht:bc P (isAgg t)=some false):(loadVar t (((cz A).add (k*K.sz)).add o)).run P w=.ok v w:=by
 rw [Addr.add_add]
 exact Rc.ld1 h (K.cell hx hv) ht
def Kd.ldN {K:Kd α} {A:OA} {k o m:Nat} {x:α} {t:TypeId} {sub:List Value} (h:K.Rd A xs w) (hx:xs[k]? =some x) (hv:((K.f x).drop o).take m=sub) (hm:(sub.length,Nat.ble (o+m) K.sz,Nat.ble 1 m,bc P (isAgg t),bc P (sizeOf t))=(m,true,true,some true,some m)):
 (loadVar t (((cz A).add (k*K.sz)).add o)).run P w=.ok (.agg sub.toArray) w:=by
 simp only [bI] at hm
 obtain ⟨h1,h2,h3,h4,h5⟩:=hm
 rw [Addr.add_add]
 exact Rc.ldN h (K.cells hx hv (dF h2)) h1 (dF h3) h4 h5
def Kd.cd {K:Kd α} {A:OA} (h:K.Rd A xs w) (hl:0<xs.length):A.isSome=true:=Rc.cd h (by rw [K.size];exact Nat.mul_pos hl K.pos)
def Kd.ba (K:Kd α) {k o:Nat} {x y:α} {vs:List Value} (h:xs[k]? =some x) (hv:bE.ba (K.f x) o vs=K.f y) (ho:o+vs.length≤K.sz):bE.ba (xs.flatMap K.f) (k*K.sz+o) vs=(xs.set k y).flatMap K.f:=by
 obtain ⟨h1,h2⟩:=K.part h
 have hk:k<xs.length:=(aN.1 h).1
 have hs:(xs.set k y)[k]? =some y:=by rw [gO];exact hk
 obtain ⟨h3,_⟩:=K.part hs
 rw [h3,List.take_set_of_le (bO _),List.drop_set_of_lt (Nat.lt_succ_self _),h1,← hv]
 unfold bE.ba
 have e1:((xs.take k).flatMap K.f++(K.f x++(xs.drop (k+1)).flatMap K.f)).take (k*K.sz+o)=(xs.take k).flatMap K.f++(K.f x).take o:=by
  rw [List.take_append,h2,cA (by omega),Nat.add_sub_cancel_left,nS (by rw [K.len];omega)]
 have e2:((xs.take k).flatMap K.f++(K.f x++(xs.drop (k+1)).flatMap K.f)).drop (k*K.sz+o+vs.length)=(K.f x).drop (o+vs.length)++(xs.drop (k+1)).flatMap K.f:=by
  rw [Nat.add_assoc,← List.drop_drop,List.drop_left' h2,qf (by rw [K.len];omega)]
 rw [e1,e2]
 simp only [cH]
end
def aq (p:Prop) [Decidable p] (kt:p→G P n U w0 Q s.WY) (kf: ¬p→G P n U w0 Q s.iff) (h:s.WX=some (.bool (decide p)):=by kernel_rfl):G P n U w0 Q s:=
 eQ (h:=h) (decide p) (fun e=>kt (cg e)) fun e=>kf (de e)
def cU (p:Prop) [Decidable p] (kt: ¬p→G P n U w0 Q s.WY) (kf:p→G P n U w0 Q s.iff) (h:s.WX=some (.bool (!decide p)):=by kernel_rfl):G P n U w0 Q s:=
 eQ (h:=h) (!decide p) (fun e=>kt J1) fun e=>kf J1
def aG (d:Nat) (p:Prop) [Decidable p] (kt:p→G P n U w0 Q (s.put d (.bool true))) (kf: ¬p→G P n U w0 Q (s.put d (.bool false))) (h:s.L.get d=some (.bool (decide p)):=by kernel_rfl):G P n U w0 Q s:=
 eg (h:=h) d (decide p) (fun e=>kt (cg e)) fun e=>kf (de e)
def eV (d:Nat) (p:Prop) [Decidable p] (kt: ¬p→G P n U w0 Q (s.put d (.bool true))) (kf:p→G P n U w0 Q (s.put d (.bool false))) (h:s.L.get d=some (.bool (!decide p)):=by kernel_rfl):G P n U w0 Q s:=
 eg (h:=h) d (!decide p) (fun e=>kt J1) fun e=>kf J1
def aw {α:Type} {xs:List α} {k:Nat} (h:k<xs.length): ∃x,xs[k]? =some x:=⟨_,dw h⟩
def stO (L:Env):Op×TypeId→Option (TypeId×Addr×Value)
 |(.store t x y,_)=>match L.ev x with
  |.pointer (some a)=>some (t,a,L.ev y)
  |_=>none
 |_=>none
def zP (g j:Nat):(⟨g,0,none⟩:Addr).add j=⟨g,j,none⟩:=by rw [Addr.add_lit,Nat.zero_add]
def E_ {α:Type} (K:Kd α) {xs:List α} {A:OA} {c k o i' i:Nat} {x y:α} {t:TypeId} {v:Value} {H:List aM} {z:Op×TypeId} {L:Env} {ops:Array Oper} (hx:ef ops L i=some z) (h:stO L z=some (t,((cz A).add (k*K.sz)).add o,v))
 (hm:(bc P (sizeOf t),v.cells.toList.all (·.oneCell'),Nat.ble (o+v.cells.size) K.sz)=(some v.cells.size,true,true)) (hS:SS U w0 w H) (hi:H[i']? =some (K.row A c xs)) (hk:xs[k]? =some x) (hv:bE.ba (K.f x) o v.cells.toList=K.f y)
 {Post:Value→World→Prop} (hp: ∀w',SS U w0 w' (H.set i' (K.row A c (xs.set k y)))→Post undef w'):One P n ops Q i L w Post:=by
 simp only [bI] at hm
 obtain ⟨h1,h2,h3⟩:=hm
 have h3:=dF h3
 have hl:k<xs.length:=(aN.1 hk).1
 unfold stO at h
 split at h
 ·rename_i t' a b ty
  split at h
  ·rename_i ad ha
   simp only [a9,bI] at h
   obtain ⟨rfl,rfl,rfl⟩:=h
   obtain ⟨g,hA,_⟩:=Row.form (hS.tP hi) (by omega)
   have e:((cz A).add (k*K.sz)).add o=⟨g,k*K.sz+o,none⟩:=by rw [Addr.add_add,hA];exact zP g _
   rw [e] at ha
   refine vD (c:=i') (wL:=(xs.set k y).flatMap K.f) hx ha rfl hS hA hi h1 ?_ h2 (K.ba hk hv (by rw [Array.length_toList];exact h3)) fun w' hw _=>hp w' ?_
   ·rw [K.size]
    have:(k+1)*K.sz≤xs.length*K.sz:=dC _ hl
    rw [Nat.succ_mul] at this
    omega
   ·unfold Kd.row
    rw [cX]
    exact hw
  ·cases h
 ·cases h
def SH.gf {H:List HB} {i:Nat} {A:aM} (hk:dR H.length [i]=true) (h:pk H [i]= [A]):(H.map HB.gf)[i]? =some A:=by
 simp only [dR,da] at hk
 have hi:=dF hk.1.1
 simp only [pk,fm,List.map_nil,List.cons.injEq,and_true] at h
 rw [fk,dw hi,← h,bA,dw hi]
 rfl
def SH.set {H:List HB} {i:Nat} {A:aM} (h:SS U w0 w ((H.map HB.gf).set i A)):SH U w0 w (H.set i (.k A)):=by
 unfold SH
 rw [List.map_set]
 exact h
def gH {α:Type} (K:Kd α) (i:Nat) (A:OA) (c:Nat) (xs:List α) (k o:Nat) (x y:α) (t:TypeId) (v:Value) (hk:xs[k]? =some x) (g:G P n U w0 Q (s.dT undef (s.H.set i (.k (K.row A c (xs.set k y)))))) (h:(s.nx stO,s.vu n,dR s.H.length [i],pk s.H [i],(bc P (sizeOf t),v.cells.toList.all (·.oneCell'),Nat.ble (o+v.cells.size) K.sz),bE.ba (K.f x) o v.cells.toList)=(some (t,((cz A).add (k*K.sz)).add o,v),true,true,[K.row A c xs],(some v.cells.size,true,true),K.f y):=by kernel_rfl):G P n U w0 Q s:=by
 simp only [bI] at h
 obtain ⟨h1,h2,h3,h4,⟨h5,h6,h7⟩,h8⟩:=h
 obtain ⟨z,hc,h1⟩:=S.fU h1
 exact iS h2 fun w hS ops Q' j hx=>E_ K (hx.trans hc) h1 (by rw [h5,h6,h7]) hS (SH.gf h3 h4) hk h8 fun w' hw=>⟨_,SH.set hw,g⟩
def uy (P:Program) (L:Env):Op×TypeId→Option (TypeId×Value×Value)
 |(.call ⟨.builtin .append,args,ts⟩,_)=>match args.toList,ts.toList with
  | [x,y],[t,t2]=>bif Nat.beq t2 t then match P.underlying t with
   |some (.slice e)=>some (e,L.ev x,L.ev y)
   |_=>none
   else none
  |_,_=>none
 |_=>none
def kq {β:Type} {a:Array β} {x y:β} (h:a.toList= [x,y]):a= #[x,y]:=by cases a;simp at h;subst h;rfl
def fK (P:Program) (e sz:Nat):Bool:=match P.info? e with
 |some i=>Nat.beq i.size sz&&Nat.ble i.bytes 131072&&(match i.zero with|some z=>Nat.beq z.cells.size sz|none=>false)
 |none=>false
def gE {e sz:Nat} (h:fK P e sz=true): ∃i z,P.info? e=some i∧i.zero=some z∧i.size=sz∧i.bytes≤131072∧z.cells.size=sz:=by
 unfold fK at h
 split at h
 ·rename_i i hi
  simp only [da] at h
  obtain ⟨⟨h1,h2⟩,h3⟩:=h
  split at h3
  ·rename_i z hz
   exact ⟨i,z,hi,hz,dh h1,dF h2,dh h3⟩
  ·cases h3
 ·cases h
def sO {t t2 ty e:TypeId} {i:TypeInfo} {A B:OA} {m cap c2:Nat} (ht:P.underlying t=some (.slice e)) (zG:t2=t) (hi:P.info? e=some i) (hm:m≤cap):(Builtin.append_ #[t,t2] ty #[.slice A m cap,.slice B 0 c2]).run P w=.ok (.slice A m cap) w:=by
 subst zG
 cases A<;>cases B<;>simp [Builtin.append_,run_underlying ht,sizeOf,typeInfo,hi,Builtin.lenOf,Builtin.firstCells,loadCells,loadCellsFrom,hm,storeCells]
def Row.cap {e:TypeId} {sz m c:Nat} {A:OA} {cs:List Value} (h:(Row e sz (.slice A m c) m cs).P w):m≤c:=by
 obtain ⟨_,⟨h2,h3⟩|⟨g,cap,cur,h2,_,_,h3,_⟩⟩:=h
 ·omega
 ·injection h2 with _ _ h4
  omega
def tg {α:Type} (K:Kd α) {xs ys:List α} {A B:OA} {c c2 k i' i:Nat} {H:List aM} {z:Op×TypeId} {L:Env} {ops:Array Oper} (hx:ef ops L i=some z) (h:uy P L z=some (K.e,.slice A xs.length c,.slice B k c2)) (mL:fK P K.e K.sz=true)
 (hS:SS U w0 w H) (hi:H[i']? =some (K.row A c xs)) (hn:K.Rd B ys w) (hk:ys.length=k) (hb:xs.length+k≤1073741824) {Post:Value→World→Prop} (hp: ∀A' c' w',SS U w0 w' (H.set i' (K.row A' c' (xs++ys)))→Post (.slice A' (xs++ys).length c') w'):One P n ops Q i L w Post:=by
 subst hk
 obtain ⟨inf,zv,ri,pI,vi,Jh,Ip⟩:=gE mL
 unfold uy at h
 split at h
 ·rename_i args ts ty
  split at h
  ·rename_i x y t t2 e1 e2
   have e1:=kq e1
   have e2:=kq e2
   subst e1
   subst e2
   cases vy:Nat.beq t2 t with
   |false=>rw [vy] at h;cases h
   |true=>
    rw [vy,cond_true] at h
    have zG:=dh vy
    split at h
    ·rename_i e hu
     simp only [a9,bI] at h
     obtain ⟨rfl,ha,hy⟩:=h
     cases ys with
     |nil=>
      have hp:=hp A c w
      rw [fj] at hp
      refine cY hx (w':=w) ?_ (hp ?_)
      ·have:=sO (P:=P) (w:=w) (ty:=ty) (A:=A) (B:=B) (c2:=c2) hu zG ri (Row.cap (hS.tP hi))
       simp [ex,execOp,resolve,invoke,builtin,ha,hy,this]
      ·refine hS.perm (List.Perm.of_eq ?_)
       obtain ⟨hl,he⟩:=aN.1 hi
       exact qj1
     |cons y0 ys=>
      obtain ⟨a,hB⟩:=Rc.addr hn (by rw [K.size];exact Nat.mul_pos (by simp) K.pos)
      subst hB
      refine AQ (c:=i') (wL:=(xs++(y0::ys)).flatMap K.f) (m2:=(xs++(y0::ys)).length) hx zG ha hy hS hi hu (by rw [ri,Option.map_some,pI,vi]) Ip K.pos (K.size _) (fun j u hj=>hn.at hj) (K.vF _) (by rw [bm]) (by rw [List.flatMap_append]) ?_ ?_ ?_
      ·exact qo1
      ·exact eF (Nat.mul_le_mul hb Jh) (by decide)
      ·exact hp
    ·cases h
  ·cases h
 ·cases h
def bQ {α:Type} (K:Kd α) (i:Nat) (A:OA) (c:Nat) (xs:List α) (B:OA) (k c2:Nat) (ys:List α) (hn: ∀w,SH U w0 w s.H→K.Rd B ys w) (hb:xs.length+k≤1073741824) (g: ∀A' c',G P n U w0 Q (s.dT (.slice A' (xs++ys).length c') (s.H.set i (.k (K.row A' c' (xs++ys)))))) (h:(s.nx (uy P),s.vu n,dR s.H.length [i],pk s.H [i],fK P K.e K.sz)=(some (K.e,.slice A xs.length c,.slice B k c2),true,true,[K.row A c xs],true):=by kernel_rfl) (hk:ys.length=k:=by rfl):G P n U w0 Q s:=by
 simp only [bI] at h
 obtain ⟨h1,h2,h3,h4,h5⟩:=h
 obtain ⟨z,hc,h1⟩:=S.fU h1
 exact iS h2 fun w hS ops Q' j hx=>tg K (hx.trans hc) h1 h5 hS (SH.gf h3 h4) (hn w hS) hk hb fun A' c' w' hw=>⟨_,SH.set hw,g A' c'⟩
def bG {α:Type} (K:Kd α) (g:G P n U w0 Q {s with H:=s.H++ [.k (K.row none 0 [])]}):G P n U w0 Q s:=by
 refine ⟨fun w hS a ha=>g.go w ?_ a ha⟩
 show SS U w0 w ((s.H++ [HB.k (K.row none 0 [])]).map HB.gf)
 rw [cT]
 exact (SS.TG hS).perm (List.perm_append_comm (l₁:= [_]))
def mi {α:Type} (K:Kd α) (i g m:Nat) (xs:List α) (k:G P n U w0 Q {s with H:=s.H.set i (.k (K.row (some ⟨g,0,none⟩) m xs))}) (h:(dR s.H.length [i],pk s.H [i],xs.length,Nat.ble m 1073741824)=(true,[bJ g K.e (xs.flatMap K.f)],m,true):=by kernel_rfl):G P n U w0 Q s:=by
 simp only [bI] at h
 obtain ⟨h1,h2,h3,h4⟩:=h
 subst h3
 exact ⟨fun w hS a ha=>k.go w (SH.set (SS.Zs hS (SH.gf h1 h2) (K.size _) (eF (dF h4) (by decide)))) a ha⟩
def SH.eT {H:List HB} (h:SH U w0 w H) (i g:Nat) (t:TypeId) (cs:List Value) (hi:(dR H.length [i],pk H [i])=(true,[bJ g t cs])):Rc (some ⟨g,0,none⟩) cs w:=by
 simp only [bI] at hi
 exact fun j v hj=>⟨_,rfl,pH.news (SS.N4 h (SH.gf hi.1 hi.2)) j v hj⟩
def SH.bg {α:Type} {K:Kd α} {H:List HB} (h:SH U w0 w H) (i:Nat) (A:OA) (c:Nat) (xs:List α) (hi:(dR H.length [i],pk H [i])=(true,[K.row A c xs])):K.Rd A xs w:=by
 simp only [bI] at hi
 exact Row.rc (SS.tP h (SH.gf hi.1 hi.2))
def SH.mR {α:Type} {K:Kd α} {H:List HB} (h:SH U w0 w H) (i:Nat) (A:OA) (c:Nat) (xs:List α) (hi:(dR H.length [i],pk H [i])=(true,[K.row A c xs])):xs.length≤c:=by
 simp only [bI] at hi
 exact Row.cap (SS.tP h (SH.gf hi.1 hi.2))
def dS (A:OA) (cap l sz:Nat):OA:=if cap=l then A else A.map (·.add (l*sz))
def Kd.drop {α:Type} {K:Kd α} {A:OA} {cap l:Nat} {xs:List α} (h:K.Rd A xs w) (hl:xs.length≤cap):K.Rd (dS A cap l K.sz) (xs.drop l) w:=by
 unfold dS
 split
 ·rename_i e
  have:xs.drop l= []:=eJ (by omega)
  rw [this]
  exact Rc.nil _ _
 ·have e:(xs.drop l).flatMap K.f=(xs.flatMap K.f).drop (l*K.sz):=by
   rcases Nat.lt_or_ge l xs.length with h1|h1
   ·obtain ⟨h2,h3⟩:=K.part (xs:=xs) (dw h1)
    rw [h2,List.drop_left' h3,fI h1,iE]
   ·rw [eJ h1,eJ (by rw [K.size];exact dC _ h1)]
    rfl
  show Rc _ _ _
  rw [e]
  cases A with
  |none=>
   intro j v hj
   rw [List.getElem?_drop] at hj
   obtain ⟨a,ha,_⟩:=h _ v hj
   cases ha
  |some a=>exact Rc.drop h _
def Kd.take {α:Type} {K:Kd α} {A:OA} {l:Nat} {xs:List α} (h:K.Rd A xs w):K.Rd A (xs.take l) w:=by
 have e:(xs.take l).flatMap K.f=(xs.flatMap K.f).take (l*K.sz):=by
  rcases Nat.lt_or_ge l xs.length with h1|h1
  ·exact qk9
  ·rw [cA h1,cA (by rw [K.size];exact dC _ h1)]
 show Rc _ _ _
 rw [e]
 exact Rc.take h _
def WW (P:Program) (L:Env):Op×TypeId→Option (OA×Nat×Nat×Nat×Option Value×Option Value)
 |(.slice t x l h none,_)=>match L.ev x,bc P (underlying t) with
  |.slice A len cap,some (.slice e)=>(bc P (sizeOf e)).map fun sz=>(A,len,cap,sz,l.map L.ev,h.map L.ev)
  |_,_=>none
 |_=>none
def KS (A:OA) (cap sz l h:Nat):Value:=.slice (if cap=l then A else A.map (·.add (l*sz))) (h-l) (cap-l)
def qn (x:Option Value) (d b:Nat):Prop:=match x with
 |none=>b=d
 |some v=> ∃k,v=.int k (b:Int)
def jG {x:Value} {k:IntKind} {b y:Nat} {code:BoundsCode} (hx:x=.int k (b:Int)) (hb:b≤y):(Instr.sliceBound x y code).run P w=.ok b w:=by
 subst hx
 have:(0:Int)≤b∧(b:Int)≤y:=by omega
 simp [Instr.sliceBound,asIntOf,this]
def KT {A:OA} {len cap sz l h i:Nat} {lv hv:Option Value} {z:Op×TypeId} {L:Env} {ops:Array Oper} (hx:ef ops L i=some z) (hz:WW P L z=some (A,len,cap,sz,lv,hv)) (hl:qn lv 0 l) (hh:qn hv len h) (h1:l≤h) (h2:h≤cap)
 {Post:Value→World→Prop} (hp:Post (KS A cap sz l h) w):One P n ops Q i L w Post:=by
 unfold WW at hz
 split at hz
 ·rename_i t x lo hi ty
  split at hz
  ·rename_i A' Ji k8 e ha hu
   simp only [fV,bI] at hz
   obtain ⟨sz',hs,rfl,rfl,rfl,rfl,rfl,rfl⟩:=hz
   refine cY hx (w':=w) ?_ hp
   have jh:(Instr.sliceBounds true Ji k8 (lo.map L.ev) (hi.map L.ev) none).run P w=.ok (l,h,k8) w:=by
    unfold Instr.sliceBounds
    cases hi with
    |none=>
     have hh':h=Ji:=hh
     subst hh'
     cases lo with
     |none=>
      have Hg:l=0:=hl
      subst Hg
      simp
     |some a=>
      obtain ⟨k,hk⟩:=hl
      simp [jG hk h1]
    |some b=>
     obtain ⟨k2,sE⟩:=hh
     cases lo with
     |none=>
      have Hg:l=0:=hl
      subst Hg
      simp [jG sE h2]
     |some a=>
      obtain ⟨k,hk⟩:=hl
      simp [jG hk h1,jG sE h2]
   simp [ex,execOp,ha,Instr.sliceAt,Instr.slice,pure_run hu,pure_run hs,jh,KS]
  ·cases hz
 ·cases hz
def fC (A:OA) (len cap sz l h:Nat) (lv hv:Option Value) (hl:qn lv 0 l) (h1:l≤h) (h2:h≤cap) (k:G P n U w0 Q (s.dT (.slice (dS A cap l sz) (h-l) (cap-l)) s.H)) (e:(s.nx (WW P),s.vu n)=(some (A,len,cap,sz,lv,hv),true):=by kernel_rfl) (hh:qn hv len h:=by rfl):G P n U w0 Q s:=by
 simp only [bI] at e
 obtain ⟨e1,e2⟩:=e
 obtain ⟨z,hc,e1⟩:=S.fU e1
 exact iS e2 fun w hS ops Q' j hx=>KT (hx.trans hc) e1 hl hh h1 h2 ⟨_,hS,k⟩
def T6 (A:OA) (cap sz:Nat):dS A cap 0 sz=A:=by
 unfold dS
 split
 ·rfl
 ·cases A with
  |none=>rfl
  |some a=>simp [Addr.add]
end
section
variable {P:Program} {n:Nat} {U:Nat→Prop} {w0 w:World} {Q:Exit→Act→World→Prop} {s:S}
def M3 (P:Program) (L:Env):Op×TypeId→Option (ByteArray×Int)
 |(.index t x y,_)=>match L.ev x,L.ev y,bc P (underlying t) with
  |.string b,.int _ j,some .string=>some (b,j)
  |_,_,_=>none
 |_=>none
def M4 {z:ByteArray} {j:Int} {b:UInt8} {x:Op×TypeId} {L:Env} {ops:Array Oper} {i:Nat} (hx:ef ops L i=some x) (h:M3 P L x=some (z,j)) (h0:0≤j) (hb:z[j.toNat]? =some b) {Post:Value→World→Prop} (hp:Post (.int .u8 (b.toNat:Int)) w):One P n ops Q i L w Post:=by
 unfold M3 at h
 split at h
 ·split at h
  ·rename_i t x y _ _ _ _ b' k j' h1 h2 h3
   simp only [a9,bI] at h
   obtain ⟨rfl,rfl⟩:=h
   exact ze hx h1 h2 h3 h0 hb hp
  ·cases h
 ·cases h
def uk (z:ByteArray) (j:Int) (b:UInt8) (hb:z[j.toNat]? =some b) (k:G P n U w0 Q (s.dT (.int .u8 (b.toNat:Int)) s.H)) (h:(s.nx (M3 P),s.vu n)=(some (z,j),true):=by kernel_rfl) (hj:0≤j:=by omega):G P n U w0 Q s:=by
 simp only [bI] at h
 obtain ⟨h1,h2⟩:=h
 obtain ⟨x,hc,h1⟩:=S.fU h1
 exact iS h2 fun w hS ops Q' i hx=>M4 (hx.trans hc) h1 hj hb ⟨_,hS,k⟩
def dt {p:Prop} [Decidable p] (h:p):true=decide p:=(decide_eq_true h).symm
def df {p:Prop} [Decidable p] (h: ¬p):false=decide p:=(decide_eq_false h).symm
def dd {p q:Prop} [Decidable p] [Decidable q] (h:p↔q):decide p=decide q:=by simp [h]
def dn {p q:Prop} [Decidable p] [Decidable q] (h: ¬p↔q):(!decide p)=decide q:=by simp [← h]
def dB (i g:Nat) (t:TypeId) (cs:List Value) (k:G P n U w0 Q {s with H:=s.H.set i (.b g t cs)}) (h:(dR s.H.length [i],pk s.H [i])=(true,[bJ g t cs]):=by kernel_rfl):G P n U w0 Q s:=by
 simp only [bI] at h
 refine ⟨fun w hS a ha=>k.go w ?_ a ha⟩
 have e:=SH.gf h.1 h.2
 show SS U w0 w ((s.H.set i (.b g t cs)).map HB.gf)
 rw [List.map_set]
 refine hS.perm (List.Perm.of_eq ?_)
 obtain ⟨hl,he⟩:=aN.1 e
 show _=(s.H.map HB.gf).set i (bJ g t cs)
 exact qj1
end
