/- For the law of worlds: The engine. -/
import Derived.Test.YtfookmefmjhonaaGreatZ07
set_option linter.all false
namespace Go.bE
open Go.RowKit
section
variable {P:Program} {n:Nat} {U:Nat→Prop} {w0 w:World} {Q:Exit→Act→World→Prop} {s:S}
def QQ {x:Ev} {l:List Nat} {r:Nat} (h:r∈l):(x.hb r).gf∈x.jh l:=di h
def SS.mem {H:List aM} {A:aM} (h:SS U w0 w H) (hm:A∈H) {φ:Prop} (k: ∀F,A.H F w→φ):φ:=by
 obtain ⟨i,hi⟩:=List.getElem?_of_mem hm
 exact h.get hi k
def QR {ops:Array Oper} {T:kG} {L:Env} {ez:Ez} {vs:Nat→Value} {i:Nat} {x:Ev} {D:(Nat→Value)→Ev} {R:Rs} {K:List aM} (hD: ∀us,(∀j,j≠i→us j=vs j)→ ∃y,eu P n ops T L ez us i x=some y∧y.Ext (D us)∧(D us).eL=(D us).eR)
 (Xu:x.V.length=i) (Vn:x.M.length=i) (QS:x.Ext (D vs)) (hM: ∀us,(D us).M=(D vs).M) (ve: ∀p∈(D vs).rd,stays T R p.1 p.2=true∧p.2<R.length)
 (he: ∀k,ez.at i=some k→(∀us,k.v (mask (own T i) us)=k.v us∧(k.gv.map fun a=>a (mask (own T i) us))=k.gv.map fun a=>a us)∧ ∀w K,SS U w0 w ((D vs).jh k.tk++((D vs).jh ((List.range R.length).filter (stays T R i))++K))→
  One P n ops Q i (cI ops T L (vl (D vs).V) i) w fun v w'=>v=k.v (ik vs i v)∧SS U w0 w' ((k.gv.map fun a=>(a (ik vs i v)).gf)++((D vs).jh ((List.range R.length).filter (stays T R i))++K)))
 (sR:cI ops T L (vl (D vs).V) i=cI ops T L (vl x.V) i)
 (hS:SS U w0 w ((D vs).jh ((D vs).M.getD i ([],[],0)).1++((D vs).jh ((List.range R.length).filter (stays T R i))++K))):
 One P n ops Q i (cI ops T L (vl (D vs).V) i) w fun v w'=>v=vl (D (ik vs i v)).V i∧SS U w0 w' ((D (ik vs i v)).jh ((D vs).M.getD i ([],[],0)).2.1++((D vs).jh ((List.range R.length).filter (stays T R i))++K)):=by
 have FA: ∀v j,j≠i→ik vs i v j=vs j:=fun v j hj=>yX hj
 have hVi: ∀(us:Nat→Value) (y:Ev),y.Ext (D us)→ ∀v W,y.V=x.V++ [v]++W→vl (D us).V i=v:=by
  intro us y hy v W hv
  rw [rS hy (by rw [hv];simp [Xu]),hv]
  unfold vl
  rw [bA,cH,gD (by omega)]
  simp [Xu]
 have Na: ∀(us:Nat→Value) (y:Ev),y.Ext (D us)→ ∀v,y.M=x.M++ [v]→(D vs).M.getD i ([],[],0)=v:=by
  intro us y hy v hv
  rw [← hM us,Sq hy (by rw [hv];simp [Vn]),hv]
  exact DP Vn
 obtain ⟨y0,nA,Br,_⟩:=hD vs fun _ _=>rfl
 cases DS:ez.at i with
 |some k=>
  obtain ⟨hm,ho⟩:=he k DS
  have ji: ∀us,eu P n ops T L ez us i x=some {x with V:=x.V++ [k.v (mask (own T i) us)],M:=x.M++ [(k.tk,x.news k.gv.length,x.hs.length)],R:=iw i x.R k.tk++k.gv.map fun a=>(some i,none,a (mask (own T i) us))}:=by
   intro us;simp only [eu,DS]
  have V3:(D vs).M.getD i ([],[],0)=(k.tk,x.news k.gv.length,x.hs.length):=by
   rw [ji] at nA
   simp only [a9] at nA
   exact Na vs y0 Br _ (by rw [← nA])
  rw [V3] at hS⊢
  refine (ho w K hS).mono ?_
  rintro v w' ⟨hv,hs⟩
  obtain ⟨y,hy,pC,_⟩:=hD (ik vs i v) (FA v)
  rw [ji] at hy
  simp only [a9] at hy
  refine ⟨?_,?_⟩
  ·rw [hVi (ik vs i v) y pC (k.v (mask (own T i) (ik vs i v))) [] (by rw [← hy];simp),(hm (ik vs i v)).1]
   exact hv
  ·have e:(D (ik vs i v)).jh (x.news k.gv.length)=k.gv.map fun a=>(a (ik vs i v)).gf:=by
    have e1: ∀q,q<k.gv.length→(D (ik vs i v)).hb (x.R.length+q)=((k.gv.map fun a=>a (ik vs i v)).getD q (.k aM.emp)):=by
     intro q hq
     rw [pC.hb _ (by rw [← hy];simp [eM];omega),← (hm (ik vs i v)).2,← hy]
     unfold Ev.hb
     simp only [bA]
     rw [gD qry,eM,Nat.add_sub_cancel_left,fk,fk,dw hq]
     rfl
    unfold Ev.jh Ev.news
    rw [List.map_map]
    refine List.ext_getElem (by simp) fun q h1 h2=>?_
    simp only [cM,List.length_range] at h1
    simp only [List.getElem_map,List.getElem_range,Function.comp]
    rw [e1 q h1]
    simp [bA,h1]
   rw [e]
   exact hs
 |none=>
  have atn:=nA
  unfold eu at nA
  rw [DS] at nA
  simp only at nA
  rw [sR]
  cases hq:jw P n ops (x.R.map (·.2.2)) (cI ops T L (vl x.V) i) x.hs i with
  |some r=>
   obtain ⟨v,hN,b,g⟩:=r
   have ji: ∀us,eu P n ops T L ez us i x=some y0:=by
    intro us;rw [← nA];simp only [eu,DS,hq]
   rw [hq] at nA
   simp only [a9] at nA
   have heq:b=g:=by
    exact qh9
   have V3:(D vs).M.getD i ([],[],0)=([],[],hN.length):=Na vs y0 Br _ (by rw [← nA])
   rw [V3] at hS⊢
   have B7: ∀w',w'=w→v=vl (D (ik vs i v)).V i∧SS U w0 w' ((D (ik vs i v)).jh []++((D vs).jh ((List.range R.length).filter (stays T R i))++K)):=by
    rintro w' rfl
    obtain ⟨y,hy,pC,_⟩:=hD (ik vs i v) (FA v)
    rw [ji] at hy
    simp only [a9] at hy
    subst hy
    exact ⟨(hVi _ _ pC v [] (by rw [← nA];simp)).symm,hS⟩
   rcases pA hq with ⟨t,xo,ty,hx,hld⟩|hq0
   ·have l8:=BN hld
    have CN:(i,x.hs.headD 0)∈(D vs).rd:=Br.rd _ (by rw [← nA];simp only [l8,cond_true];exact cE)
    obtain ⟨h1,h2⟩:=ve _ CN
    obtain ⟨a,h4,h5⟩:=DN (w:=w) hld heq fun g' t' cs' hc=>by
     have hc2:x.hb (x.hs.headD 0)=.b g' t' cs':=by
      rw [fk] at hc
      simp only [fV] at hc
      obtain ⟨z,hz,wu⟩:=hc
      unfold Ev.hb
      rw [bA,hz]
      exact wu
     have hlen:x.hs.headD 0<x.R.length:=by
      rw [fk] at hc
      simp only [fV] at hc
      obtain ⟨z,hz,_⟩:=hc
      exact (aN.1 hz).1
     have je:(bJ g' t' cs')∈(D vs).jh ([]:List Nat)++((D vs).jh ((List.range R.length).filter (stays T R i))++K):=by
      refine List.mem_append_right _ (List.mem_append_left _ ?_)
      have:=QQ (x:=D vs) (r:=x.hs.headD 0) (List.mem_filter.2 ⟨List.mem_range.2 h2,h1⟩)
      rw [QS.hb _ hlen,hc2] at this
      exact this
     exact hS.mem je fun _ z=>z.2
    exact pO hx h4 h5 (B7 w rfl)
   ·exact (zS (U:=No) (w0:=w) hq0 heq (SS.nil No w)).mono fun u w' h=>by obtain ⟨rfl,rfl⟩:=h;exact B7 _ rfl
  |none=>
   rw [hq] at nA
   simp only at nA
   cases hd:iU n ops i with
   |false=>rw [hd] at nA;cases nA
   |true=>
    rw [hd] at nA
    simp only [Bool.not_true,cond_false] at nA
    cases hx:ef ops (cI ops T L (vl x.V) i) i with
    |none=>rw [hx] at nA;cases nA
    |some o=>
     rw [hx] at nA
     simp only at nA
     cases nu:kU P x.R (cI ops T L (vl x.V) i) x.hs o with
     |some r=>
      obtain ⟨c,hN,b,g,t',cs'⟩:=r
      rw [nu] at nA
      simp only [a9] at nA
      have ji: ∀us,eu P n ops T L ez us i x=some y0:=by
       intro us;rw [← nA];simp only [eu,DS,hq,hd,Bool.not_true,cond_false,hx,nu]
      have heq:b=g:=by
       exact qh9
      have V3:(D vs).M.getD i ([],[],0)=([c],x.news 1,hN.length):=Na vs y0 Br _ (by rw [← nA])
      rw [V3] at hS⊢
      unfold kU at nu
      split at nu
      ·rename_i t xo yo ty
       split at nu
       ·rename_i _ _ b' o' c' lu hev _
        split at nu
        ·rename_i p1 p2 g' T' cs hc
         split at nu
         ·rename_i sz pq
          cases hb:(Nat.beq ((cI ops T L (vl x.V) i).ev yo).cells.toList.length sz&&Nat.ble (o'+sz) cs.length&&((cI ops T L (vl x.V) i).ev yo).cells.toList.all (·.oneCell')) with
          |false=>rw [hb] at nu;cases nu
          |true=>
           rw [hb] at nu
           simp only [cond_true,a9,bI] at nu
           obtain ⟨rfl,rfl,rfl,rfl,rfl,rfl⟩:=nu
           subst heq
           simp only [da] at hb
           obtain ⟨⟨e1,e2⟩,e3⟩:=hb
           have e1:=dh e1
           have e2:=dF e2
           rw [Array.length_toList] at e1
           have vP:c'<x.R.length:=(aN.1 hc).1
           have hxc:x.hb c'=.b b' T' cs:=by
            unfold Ev.hb
            rw [bA,hc]
            rfl
           have Qd:SS U w0 w (bJ b' T' cs::((D vs).jh ((List.range R.length).filter (stays T R i))++K)):=by
            have:(D vs).jh [c']= [bJ b' T' cs]:=by
             unfold Ev.jh
             simp only [fm,List.map_nil]
             rw [QS.hb _ vP,hxc]
             rfl
            rw [this] at hS
            exact hS
           refine tR (c:=0) hx hev rfl Qd rfl (by rw [pq,e1]) (by rw [e1];exact e2) e3 fun w' hw _=>?_
           obtain ⟨y,hy,pC,_⟩:=hD (ik vs i undef) (FA undef)
           rw [ji] at hy
           simp only [a9] at hy
           subst hy
           refine ⟨(hVi _ _ pC undef [] (by rw [← nA];simp)).symm,?_⟩
           have:(D (ik vs i undef)).jh (x.news 1)= [bJ b' T' (ba cs o' ((cI ops T L (vl x.V) i).ev yo).cells.toList)]:=by
            unfold Ev.jh Ev.news
            simp only [List.range_one,fm,List.map_nil,Nat.add_zero]
            rw [pC.hb _ (by rw [← nA];simp [eM]),← nA]
            unfold Ev.hb
            simp only [bA]
            rw [gD qry,eM,Nat.sub_self]
            rfl
           rw [this]
           exact hw
         ·cases nu
        ·cases nu
       ·cases nu
      ·cases nu
     |none=>
      rw [nu] at nA
      simp only at nA
      have hg: ∀g:Nat,∃us:Nat→Value,(∀j,j≠i→us j=vs j)∧a5 (us i)=g:=fun g=>⟨ik vs i (.pointer (some ⟨g,0,none⟩)),fun j hj=>yX hj,by rw [kR];rfl⟩
      have FV: ∀us,(∀j,j≠i→us j=vs j)→ ∃cs t v,nU P (a5 (us i)) (ex (cI ops T L (vl x.V) i) o)=some (.cells cs t (0,0),.value v)∧a5 v=a5 (us i)∧vl (D us).V i=v∧(D us).jh (x.news 1)= [bJ (a5 (us i)) t cs.toList]∧(D vs).M.getD i ([],[],0)=([],x.news 1,x.hs.length):=by
       intro us _7
       obtain ⟨y,hy,pC,hee⟩:=hD us _7
       simp only [eu,DS,hq,hd,Bool.not_true,cond_false,hx,nu] at hy
       split at hy
       ·rename_i cs t v hn
        simp only [a9] at hy
        have h1:=pC.eq hee
        rw [← hy] at h1
        refine ⟨cs,t,v,hn,(List.cons.inj h1).1,hVi us y pC v [] (by rw [← hy];simp),?_,Na us y pC _ (by rw [← hy])⟩
        unfold Ev.jh Ev.news
        simp only [List.range_one,fm,List.map_nil,Nat.add_zero]
        rw [pC.hb _ (by rw [← hy];simp),← hy]
        unfold Ev.hb
        simp only [bA]
        rw [gD (bO _),Nat.sub_self]
        rfl
       ·cases hy
      obtain ⟨us,_7,hgu⟩:=hg w.heap.size
      obtain ⟨cs,t,v,hn,hbv,_,_,V3⟩:=FV us _7
      rw [hgu] at hn hbv
      rw [V3] at hS⊢
      refine cY hx (uc hn rfl) ?_
      obtain ⟨wL,t2,v2,Uk,ats,hV2,hR2,_⟩:=FV (ik vs i v) (FA v)
      rw [kR,hbv] at Uk hR2
      rw [hn] at Uk
      simp only [a9,bI,Next.value.injEq,Obj.cells.injEq] at Uk
      obtain ⟨⟨rfl,rfl,_⟩,rfl⟩:=Uk
      refine ⟨hV2.symm,?_⟩
      rw [hR2]
      have Qd:SS U w0 w ((D vs).jh ((List.range R.length).filter (stays T R i))++K):=hS
      have h2:=pH.alloc (St.start No w) t cs.toList
      exact Qd.wC (Ch.alloc _ _) (by simpa using h2.all _ cE) fun b hb=>by
       exact qvv
end
section
variable {P:Program} {n:Nat} {U:Nat→Prop} {w0 w:World} {Q:Exit→Act→World→Prop} {s:S}
def aO (ez:Ez) (hs:List Nat) (ho:PV P n U w0 s ez hs ez) (k: ∀vs,G P n U w0 Q (s.enx (s.D P n ez hs vs))) (h: ∀vs,_r P n s ez hs vs:=by intro _;exact ⟨kr,kr,kr⟩):G P n U w0 Q s:=by
 refine ⟨fun w hS a ha=>?_⟩
 have hu:=h uu
 obtain ⟨hu0,-,-⟩:=hu
 simp only [da] at hu0
 obtain ⟨⟨⟨⟨⟨⟨⟨⟨⟨h1,h2⟩,vP⟩,hm⟩,-⟩,hR⟩,I7⟩,-⟩,-⟩,Q5⟩:=hu0
 have pe:=yY Q5
 have M6: ∀vs,(s.eff P n ez hs vs).isSome=true∧(s.D P n ez hs vs).M=(s.D P n ez hs uu).M∧(∀p∈(s.D P n ez hs vs).rd,stays s.mI (s.D P n ez hs uu).rs p.1 p.2=true∧p.2<(s.D P n ez hs uu).rs.length):=fun vs=>by
  obtain ⟨hh,-,-⟩:=h vs
  simp only [da] at hh
  obtain ⟨⟨⟨⟨⟨_,a1⟩,_⟩,_⟩,a2⟩,a3⟩:=hh.1
  refine ⟨a1,LH a2,fun p hp=>?_⟩
  have:=dE.1 a3 p hp
  simp only [da] at this
  exact ⟨this.1,dF this.2⟩
 have rh: ∀vs,s.eff P n ez hs vs=some (s.D P n ez hs vs):=fun vs=>by
  obtain ⟨y,hy⟩:=Option.isSome_iff_exists.1 (M6 vs).1
  simp [S.D,hy]
 have heq: ∀vs,(s.D P n ez hs vs).eL=(s.D P n ez hs vs).eR:=fun vs=>(h vs).2.1
 have SO: ∀vs,(s.D P n ez hs vs).M=(s.D P n ez hs uu).M:=fun vs=>(M6 vs).2.1
 have ve: ∀vs p,p∈(s.D P n ez hs vs).rd→stays s.mI (s.D P n ez hs uu).rs p.1 p.2=true∧p.2<(s.D P n ez hs uu).rs.length:=fun vs=>(M6 vs).2.2
 have E0: ∀vs,(s.D P n ez hs vs).rs=(s.D P n ez hs uu).rs:=fun vs=>(rT (rh vs) (rh uu) (SO vs)).2
 have DS: ∀vs i k,ez.at i=some k→k.v (mask (own s.mI i) vs)=k.v vs∧(k.gv.map fun a=>a (mask (own s.mI i) vs))=k.gv.map fun a=>a vs:=fun vs i k hk=>by
  have:=List.map_inj_left.1 (h vs).2.2 (i,k) (Ez.mem hk)
  exact Rf
 have zK: ∀vs r,(s.D P n ez hs vs).pr r=(s.D P n ez hs uu).rs.prod r:=fun vs r=>by
  rw [← E0 vs]
  unfold Ev.pr Ev.rs Rs.prod
  rw [bA,bA,fk]
  cases (s.D P n ez hs vs).R[r]? <;>rfl
 have aak:=og h2
 have aal: ∀vs,(s.D P n ez hs vs).R.length=(s.D P n ez hs uu).rs.length:=fun vs=>by
  have:=congrArg List.length (E0 vs)
  simpa [Ev.rs] using this
 have Wf: ∀us vs (A:Nat→Prop),(∀j,j<s.iz.size→A j→ ∀a∈s.mI.j7 j,A a)→(∀j,A j→us j=vs j)→
  (∀j,j<s.iz.size→A j→vl (s.D P n ez hs us).V j=vl (s.D P n ez hs vs).V j)∧ ∀r,(∀a,(s.D P n ez hs uu).rs.prod r=some a→A a)→(s.D P n ez hs us).hb r=(s.D P n ez hs vs).hb r:=fun us vs A hA Xn=>by
  have ji: ∀us p,p∈(s.D P n ez hs us).rd→ ∀a,(s.D P n ez hs uu).rs.prod p.2=some a→a∈s.mI.j7 p.1:=fun us p hp a ha=>by
   have h5:=(ve us p hp).1
   unfold stays at h5
   rw [ha,da] at h5
   exact dq.1 h5.1
  have:=Fx (x0:=s.x0 hs) rfl rfl (rh us) (rh vs) ((SO us).trans (SO vs).symm) aak A hA Xn
   (fun p hp a ha=>ji us p hp a qp1) (fun p hp a ha=>ji vs p hp a qp1)
   (fun p hp=>by
    rw [aal us]
    rcases hp with hp|hp
    ·exact (ve us p hp).2
    ·exact (ve vs p hp).2)
   (fun i hi c hc a ha=>by
    have h6:=dE.1 I7 i (List.mem_range.2 hi)
    simp only [da,beq_iff_eq] at h6
    have h7:((vM s.mI (s.D P n ez hs uu) s.iz.size).getD i ([],[],[])).1=((s.D P n ez hs uu).M.getD i ([],[],0)).1:=by
     exact qnv
    have h8:c∈((vM s.mI (s.D P n ez hs uu) s.iz.size).getD i ([],[],[])).1:=by rw [h7,← SO us];exact hc
    rw [← h6.1.1] at h8
    obtain ⟨h9,iJ⟩:=List.mem_filter.1 h8
    have kx:=lL.1 iJ
    have xw:=dE.1 hR c h9
    simp only [da] at xw
    have ki:=xw.2
    have N9:(s.D P n ez hs uu).rs.prod c=some a:=by rw [← zK us];exact ha
    rw [kx,N9] at ki
    simp only [da] at ki
    exact dq.1 ki.2) (bO _) (rh us) (rh vs)
  exact ⟨this.1,fun r hr=>this.2 r fun a ha=>hr a qp1⟩
 have nD: ∀i,i<s.iz.size→ ∀j,j<s.iz.size→j∈own s.mI i→ ∀a∈s.mI.j7 j,a∈own s.mI i:=fun i hi j _ hj a ha=>by
  rcases dx.1 hj with e|e
  ·rw [e] at ha;exact bH _ ha
  ·exact bH _ (LR vP i hi j e a ha)
 have hmk: ∀i vs j,j∈own s.mI i→mask (own s.mI i) vs j=vs j:=fun i vs j hj=>by
  unfold mask;rw [dq.2 hj];rfl
 have hVm: ∀vs i,i<s.iz.size→vl (s.D P n ez hs (mask (own s.mI i) vs)).V i=vl (s.D P n ez hs vs).V i:=fun vs i hi=>
  (Wf _ vs (fun j=>j∈own s.mI i) (nD i hi) (hmk i vs)).1 i hi cE
 have hRm: ∀vs r,r<(s.D P n ez hs uu).rs.length→(s.D P n ez hs (DO s.mI (s.D P n ez hs uu).rs r vs)).hb r=(s.D P n ez hs vs).hb r:=fun vs r hr=>by
  unfold DO
  cases hp:(s.D P n ez hs uu).rs.prod r with
  |none=>exact (Wf _ vs (fun _=>False) (fun _ _ h=>h.elim) (fun _ h=>h.elim)).2 r fun a ha=>by rw [hp] at ha;cases ha
  |some p=>
   have hps:p<s.iz.size:=by
    have xw:=dE.1 hR r (List.mem_range.2 hr)
    simp only [da] at xw
    have ki:=xw.1
    rw [hp] at ki
    exact dF ki
   exact (Wf _ vs (fun j=>j∈own s.mI p) (nD p hps) (hmk p vs)).2 r fun a ha=>by
    rw [hp] at ha;cases ha;exact cE
 obtain ⟨L,H,ks⟩:=s
 unfold S.xz at h1
 split at h1
 ·rename_i id ops mW lq
  simp only at lq
  subst lq
  let s:S:=⟨L,H,.c (.region id ops true)::mW⟩
  let D:(Nat→Value)→Ev:=S.D P n s ez hs
  let T:kG:=s.mI
  let R:Rs:=(D uu).rs
  let m:=ops.size
  have hlen: ∀vs,(D vs).R.length=R.length:=fun vs=>by
   have:=congrArg List.length (E0 vs)
   simpa [Ev.rs,R] using this
  have CF:=og h2
  have ahW: ∀vs r,r<R.length→NL T R (fun r=>((List.range R.length).map fun r vs=>((D vs).hb r).gf).getD r fun _=>aM.emp) r vs=((D vs).hb r).gf:=by
   intro vs r hr
   have hg: ∀us,(((List.range R.length).map fun r (vs:Nat→Value)=>((D vs).hb r).gf).getD r fun _=>aM.emp) us=((D us).hb r).gf:=by
    intro us
    rw [bA,fk,List.getElem?_range hr]
    rfl
   have FW:=hRm vs r hr
   unfold NL
   unfold DO at FW
   cases hp:R.prod r with
   |none=>
    have zO:Rs.prod (S.D P n s ez hs uu).rs r=none:=hp
    rw [zO] at FW
    simp only at FW⊢
    exact (hg uu).trans (congrArg HB.gf FW)
   |some p=>
    have zO:Rs.prod (S.D P n s ez hs uu).rs r=some p:=hp
    rw [zO] at FW
    simp only at FW⊢
    rw [hg]
    exact congrArg HB.gf FW
  have M7: ∀vs (l:List Nat),(∀r∈l,r<R.length)→LC T R ((List.range R.length).map fun r vs=>((D vs).hb r).gf) l vs=(D vs).jh l:=fun vs l hl=>List.map_congr_left fun r hr=>ahW vs r (hl r hr)
  have Na: ∀i,i<m→(vM T (D uu) m).getD i ([],[],[])=(((D uu).M.getD i ([],[],0)).1,((D uu).M.getD i ([],[],0)).2.1,kT T (D uu) i):=fun i hi=>by
   exact qnv
  have M8:kT T (D uu)=fun i=>(List.range R.length).filter (stays T R i):=by
   funext i
   unfold kT
   rw [hlen uu]
  have SQ: ∀i,i<m→(∀r∈((D uu).M.getD i ([],[],0)).1,r<R.length)∧(∀r∈((D uu).M.getD i ([],[],0)).2.1,r<R.length):=fun i hi=>by
   have:=dE.1 I7 i (List.mem_range.2 hi)
   simp only [da,beq_iff_eq] at this
   have e:=Na i hi
   have t1:=this.1.1
   have t2:=this.1.2
   have t1':(List.range R.length).filter (fS R i)=((vM T (D uu) m).getD i ([],[],[])).1:=t1
   have t2':(List.range R.length).filter (lr R i)=((vM T (D uu) m).getD i ([],[],[])).2.1:=t2
   rw [e] at t1' t2'
   refine ⟨fun r hr=>?_,fun r hr=>?_⟩
   ·exact List.mem_range.1 (List.mem_filter.1 (t1'.symm▸hr:r∈(List.range R.length).filter (fS R i))).1
   ·exact List.mem_range.1 (List.mem_filter.1 (t2'.symm▸hr:r∈(List.range R.length).filter (lr R i))).1
  have _1: ∀j,j<m→ ∀f:Nat→Value,(((List.range m).map fun i=>fun vs:Nat→Value=>vs i=vl (D vs).V i).getD j fun _=>True) f↔f j=vl (D f).V j:=by
   exact qnp
  have mO: ∀j vs,mask (own T j) vs j=vs j:=by
   exact qlo
  have Ee: ∀vs j,j<m→((((List.range m).map fun i=>fun vs:Nat→Value=>vs i=vl (D vs).V i).getD j fun _=>True) (mask (own T j) vs)↔vs j=vl (D vs).V j):=by
   intro vs j hj
   rw [_1 j hj,mO]
   have:=hVm vs j hj
   exact ⟨fun e=>e.trans this,fun e=>e.trans this.symm⟩
  have iF: ∀l:List Nat,(∀r∈l.filter fun _=>true,True):=fun _ _ _=>trivial
  refine LD (Q:=DK P Q mW) (U:=U) (w0:=w0) T R (vM T (D uu) m) ((List.range m).map fun i=>fun vs=>vs i=vl (D vs).V i) ((List.range R.length).map fun r vs=>((D vs).hb r).gf) m _ _ (Nat.beq_refl _) hm h2 hR I7 rfl rfl ?_ ?_ ?_ a ha
  ·have hf:((List.range R.length).filter fun r=>(R.prod r).isNone)=List.range H.length:=pe
   rw [hf]
   have hHR:H.length≤R.length:=by
    have:=congrArg List.length hf
    rw [List.length_range] at this
    have h3:=List.length_filter_le (fun r=>(R.prod r).isNone) (List.range R.length)
    rw [List.length_range] at h3
    omega
   rw [M7 _ _ fun r hr=>dY (List.mem_range.1 hr) hHR]
   have IL:(s.x0 hs).Ext (D (fun _=>undef)):=by
    obtain ⟨y,hy,he,_⟩:=fT (P:=P) (n:=n) (k:=0) (bh _) (rh (fun _=>undef))
    cases hy
    exact he
   have:(D (fun _=>undef)).jh (List.range H.length)=H.map HB.gf:=by
    unfold Ev.jh
    refine List.ext_getElem (by simp) fun r pG XD=>?_
    simp only [cM,List.length_range] at pG
    simp only [List.getElem_map,List.getElem_range]
    rw [IL.hb r (by simp [S.x0];exact pG)]
    unfold Ev.hb S.x0
    simp [bA,s,pG]
   rw [this]
   exact SS.drew hS
  ·have zT: ∀i,i<m→_p P n ops (DK P Q mW) T L R (vM T (D uu) m) ((List.range m).map fun i=>fun vs=>vs i=vl (D vs).V i) ((List.range R.length).map fun r vs=>((D vs).hb r).gf) U w0 i:=by
    intro i hi vs wi K hj hS
    have hvs: ∀j,has (T.j7 i) j=true→vs j=vl (D vs).V j:=fun j pQ=>(Ee vs j (Nat.lt_trans (CF i hi j (dq.1 pQ)) hi)).1 (hj j pQ)
    obtain ⟨x,hx,pC,Xu,Vn⟩:=fT (P:=P) (n:=n) (k:=i) (Nat.le_of_lt hi) (rh vs)
    simp only [S.x0,fA,Nat.zero_add] at Xu Vn
    have pP:cI ops T L vs i=cI ops T L (vl (D vs).V) i:=jR hvs
    rw [pP]
    rw [Na i hi] at hS⊢
    have ji: ∀r∈kT T (D uu) i,r<R.length:=fun r hr=>by
     rw [M8] at hr;exact List.mem_range.1 (List.mem_filter.1 hr).1
    rw [M7 vs _ (fun r hr=>by rcases eG.1 hr with h|h;exact (SQ i hi).1 r h;exact ji r h)] at hS
    have CG:SS U w0 wi ((D vs).jh ((D vs).M.getD i ([],[],0)).1++((D vs).jh ((List.range R.length).filter (stays T R i))++K)):=by
     have:(D vs).M=(D uu).M:=SO vs
     rw [this]
     have e:(D vs).jh (((D uu).M.getD i ([],[],0)).1++kT T (D uu) i)=(D vs).jh ((D uu).M.getD i ([],[],0)).1++(D vs).jh ((List.range R.length).filter (stays T R i)):=by
      unfold Ev.jh;rw [cT,M8]
     have xB:SS U w0 wi ((D vs).jh (((D uu).M.getD i ([],[],0)).1++kT T (D uu) i)++K):=hS
     rw [e,cH] at xB
     exact xB
    refine (QR (P:=P) (n:=n) (Q:=DK P Q mW) (ez:=ez) (D:=D) (x:=x) (L:=L) (fun us _7=>?_) Xu Vn pC (fun us=>(SO us).trans (SO vs).symm) (ve vs) (fun k hk=>⟨fun us=>DS us i k hk,fun w K hS=>?_⟩) (jR fun j pQ=>rS pC (by rw [Xu];exact CF i hi j (dq.1 pQ))) CG).mono ?_
    ·have ahY:us=ik vs i (us i):=by
      funext j
      by_cases e:j=i
      ·subst e;rw [kR]
      ·rw [yX e,_7 j e]
     have hxu:gd P n ops T L ez us i (s.x0 hs)=some x:=by rw [ahY];exact (xh (P:=P) (ez:=ez) (L:=L) (x:=s.x0 hs) (vs:=vs) (v:=us i) h2 hi (bO _)).trans hx
     obtain ⟨y,hy,he,_⟩:=fT (P:=P) (n:=n) (k:=i+1) (Nat.succ_le_of_lt hi) (rh us)
     refine ⟨y,?_,he,heq us⟩
     simp only [gd] at hy
     have ahZ:gd P n (S.iz s) (S.mI s) s.L ez us i (s.x0 hs)=some x:=hxu
     rw [ahZ] at hy
     exact hy
    ·have hoe:=(ho.get hk).go vs (DK P Q mW) w K
     have WG:kT (S.mI s) (D vs) i=(List.range R.length).filter (stays T R i):=by
      have hrv:(D vs).rs=R:=E0 vs
      unfold kT
      rw [hlen vs,hrv]
     have aam:SS U w0 w ((D vs).jh k.tk++((D vs).jh (kT (S.mI s) (D vs) i)++K))→One P n ops (DK P Q mW) i (cI ops T L (vl (D vs).V) i) w fun v w'=>v=k.v (ik vs i v)∧SS U w0 w' ((k.gv.map fun a=>(a (ik vs i v)).gf)++((D vs).jh (kT (S.mI s) (D vs) i)++K)):=hoe
     rw [WG] at aam
     exact aam hS
    ·rintro v w' ⟨hv,hN⟩
     refine ⟨(Ee (ik vs i v) i hi).2 (by rw [kR];exact hv),?_⟩
     rw [M7 (ik vs i v) _ (SQ i hi).2,M7 vs _ ji,M8]
     have:(D vs).M=(D uu).M:=SO vs
     rw [this] at hN
     exact hN
   have: ∀k,k≤m→jZ (_p P n ops (DK P Q mW) T L R (vM T (D uu) m) ((List.range m).map fun i=>fun vs=>vs i=vl (D vs).V i) ((List.range R.length).map fun r vs=>((D vs).hb r).gf) U w0) k:=by
    exact qid
   exact qqv
  ·intro vs w' hj xB
   have hvs: ∀j,j<m→vs j=vl (D vs).V j:=fun j pQ=>(Ee vs j pQ).1 (hj j (dF (by simp [Nat.blt];exact pQ)|>fun _=>by simp [Nat.blt];exact pQ))
   have pP:cI ops T L vs m=cI ops T L (vl (D vs).V) m:=jR fun j pQ=>by
    have h3:=h2
    simp only [FY,da,dE] at h3
    have hjm:Nat.blt j ops.size=true:=h3.2 j (dq.1 pQ)
    exact hvs j (dF hjm)
   rw [pP]
   have hk:=k vs
   intro a' N9
   refine hk.go w' ?_ a' N9
   rw [M7 vs _ fun r hr=>List.mem_range.1 (List.mem_filter.1 hr).1] at xB
   have hrv:(D vs).rs=R:=E0 vs
   rw [← hrv] at xB
   have h4:=HK (x:=D vs)
   unfold Ev.jh at xB
   rw [h4] at xB
   exact DQ (K:= []) xB
 ·cases h1
end
section
variable {P:Program} {n:Nat} {U:Nat→Prop} {w0 w:World} {Q:Exit→Act→World→Prop} {s:S} {ez:Ez} {hs:List Nat} {i:Nat}
def SE (U:Nat→Prop) (w0 w:World) (X Y:List aM):Prop:= ∃K,SS U w0 w (X++(Y++K))
def SE.ch {X Y:List aM} (h:SE U w0 w X Y):Ch U w0 w:=h.elim fun _ k=>k.ch
def SE.get {X Y:List aM} (h:SE U w0 w X Y) {q:Nat} {A:aM} (e:Y[q]? =some A) {φ:Prop} (k: ∀F,A.H F w→φ):φ:=by
 obtain ⟨K,hS⟩:=h
 exact hS.mem (List.mem_append_right _ (List.mem_append_left _ (aI e))) k
def SE.bg {α:Type} {K:Kd α} {X Y:List aM} (h:SE U w0 w X Y) (q:Nat) (A:OA) (c:Nat) (xs:List α) (e:Y[q]? =some (K.row A c xs)):K.Rd A xs w:=h.get e fun _ z=>Row.rc z.2
def SE.eT {X Y:List aM} (h:SE U w0 w X Y) (q g:Nat) (t:TypeId) (cs:List Value) (e:Y[q]? =some (bJ g t cs)):Rc (some ⟨g,0,none⟩) cs w:=h.get e fun _ z j v hj=>⟨_,rfl,pH.news z.2 j v hj⟩
def S.vA (P:Program) (n:Nat) (s:S) (ez:Ez) (hs:List Nat) (i:Nat) (vs:Nat→Value):List aM:=(s.D P n ez hs vs).jh (kT s.mI (s.D P n ez hs vs) i)
def S.ox {α:Type} (P:Program) (n:Nat) (s:S) (ez:Ez) (hs:List Nat) (i:Nat) (vs:Nat→Value) (f:Env→Op×TypeId→Option α):Option α:=s.qx (s.D P n ez hs vs).V i f
abbrev Ek.val (v:(Nat→Value)→Value):Ek:=⟨[],v,[]⟩
abbrev Ek.app {α:Type} (K:Kd α) (r i:Nat) (xs ys:(Nat→Value)→List α):Ek:=⟨[r],fun vs=>.slice (ak (vs i)) (xs vs++ys vs).length (an (vs i)),[fun vs=>.k (K.row (ak (vs i)) (an (vs i)) (xs vs++ys vs))]⟩
abbrev Ek.Ns {α:Type} (K:Kd α) (r:Nat) (A:(Nat→Value)→OA) (c:(Nat→Value)→Nat) (xs:(Nat→Value)→List α):Ek:=⟨[r],fun _=>undef,[fun vs=>.k (K.row (A vs) (c vs) (xs vs))]⟩
def mT (v:(Nat→Value)→Value) (h: ∀vs Q' w,SE U w0 w [] (s.vA P n ez hs i vs)→One P n s.iz Q' i (s.env (s.D P n ez hs vs).V i) w fun u w'=>u=v vs∧w'=w) (hv: ∀vs u,v (ik vs i u)=v vs):ke P n U w0 s ez hs i ⟨[],v,[]⟩:=
 ⟨fun vs Q' w K hS=>(h vs Q' w ⟨K,hS⟩).mono fun u w' hh=>by obtain ⟨rfl,rfl⟩:=hh;exact ⟨(hv vs _).symm,hS⟩⟩
def br (A:(Nat→Value)→OA) (len:(Nat→Value)→Nat) (j:(Nat→Value)→Int) (sz:Nat) (hA: ∀vs w,SE U w0 w [] (s.vA P n ez hs i vs)→(A vs).isSome=true) (h: ∀vs,s.ox P n ez hs i vs (I8 P)=some (A vs,len vs,j vs,sz):=by intro _;kernel_rfl) (hj: ∀vs,0≤j vs∧j vs<len vs:=by intro _;omega) (hv: ∀vs u,A (ik vs i u)=A vs∧j (ik vs i u)=j vs:=by intro _ _;exact ⟨rfl,rfl⟩):ke P n U w0 s ez hs i ⟨[],fun vs=>.pointer (some ((cz (A vs)).add ((j vs).toNat*sz))),[]⟩:=
 mT _ (fun vs Q' w hS=>by
  obtain ⟨x,hx,h1⟩:=S.dU (h vs)
  exact xC hx h1 (hj vs) (hA vs w hS) ⟨rfl,rfl⟩) fun vs u=>by simp only [(hv vs u).1,(hv vs u).2]
def cZ (t:TypeId) (a:(Nat→Value)→Addr) (v:(Nat→Value)→Value) (hl: ∀vs w,SE U w0 w [] (s.vA P n ez hs i vs)→(loadVar t (a vs)).run P w=.ok (v vs) w) (h: ∀vs,s.ox P n ez hs i vs XL=some (t,a vs):=by intro _;kernel_rfl) (hv: ∀vs u,v (ik vs i u)=v vs:=by intro _ _;rfl):ke P n U w0 s ez hs i ⟨[],v,[]⟩:=
 mT _ (fun vs Q' w hS=>by
  obtain ⟨x,hx,h1⟩:=S.dU (h vs)
  exact CH hx h1 (hl vs w hS) ⟨rfl,rfl⟩) hv
def val_one {x:Op×TypeId} {L:Env} {ops:Array Oper} {v:Value} (hx:ef ops L i=some x) (h:CJ P L x=some v):One P n ops Q i L w fun u w'=>u=v∧w'=w:=by
 obtain ⟨op,ty⟩:=x
 unfold CJ at h
 split at h
 ·rename_i u hq
  simp only [a9] at h
  subst h
  simp only at hq
  unfold CE at hq
  split at hq
  ·split at hq
   ·rename_i t x y t2 _ _ xs ys h1 h2
    exact qe7
   ·cases hq
  ·split at hq
   ·rename_i t x y t2 _ _ xs ys h1 h2
    exact qe6
   ·cases hq
  ·cases hq
 ·split at h
  ·rename_i u hp
   simp only [a9] at h
   subst h
   exact qo4
  ·cases h
def jS (old v:(Nat→Value)→Value) (e: ∀vs,old vs=v vs) (h: ∀vs,s.ox P n ez hs i vs (CJ P)=some (old vs):=by intro _;kernel_rfl) (hv: ∀vs u,v (ik vs i u)=v vs:=by intro _ _;rfl):ke P n U w0 s ez hs i ⟨[],v,[]⟩:=
 mT _ (fun vs Q' w hS=>by
  obtain ⟨x,hx,h1⟩:=S.dU (h vs)
  rw [← e vs]
  exact val_one hx h1) hv
def fc (x:(Nat→Value)→Int) (e: ∀vs,-9223372036854775808≤x vs∧x vs≤9223372036854775807:=by intro _;omega) (h: ∀vs,s.ox P n ez hs i vs (CJ P)=some (.int .i64 (IntKind.i64.wrap (x vs))):=by intro _;kernel_rfl) (hv: ∀vs u,x (ik vs i u)=x vs:=by intro _ _;rfl):ke P n U w0 s ez hs i ⟨[],fun vs=>.int .i64 (x vs),[]⟩:=
 jS (h:=h) (hv:=fun vs u=>by simp only [hv vs u]) _ _ (fun vs=>by rw [wrap_i64 (e vs)])
def lT (A:(Nat→Value)→OA) (len cap l h:(Nat→Value)→Nat) (sz:Nat) (lv hv:(Nat→Value)→Option Value) (hl: ∀vs,qn (lv vs) 0 (l vs)) (h1: ∀vs,l vs≤h vs) (h2: ∀vs w,SE U w0 w [] (s.vA P n ez hs i vs)→h vs≤cap vs) (e: ∀vs,s.ox P n ez hs i vs (WW P)=some (A vs,len vs,cap vs,sz,lv vs,hv vs):=by intro _;kernel_rfl) (hh: ∀vs,qn (hv vs) (len vs) (h vs):=by intro _;rfl) (hu: ∀vs u,A (ik vs i u)=A vs∧cap (ik vs i u)=cap vs∧l (ik vs i u)=l vs∧h (ik vs i u)=h vs:=by intro _ _;exact ⟨rfl,rfl,rfl,rfl⟩):ke P n U w0 s ez hs i ⟨[],fun vs=>.slice (dS (A vs) (cap vs) (l vs) sz) (h vs-l vs) (cap vs-l vs),[]⟩:=
 mT _ (fun vs Q' w hS=>by
  obtain ⟨x,hx,h3⟩:=S.dU (e vs)
  exact KT hx h3 (hl vs) (hh vs) (h1 vs) (h2 vs w hS) ⟨rfl,rfl⟩) fun vs u=>by obtain ⟨e1,e2,e3,e4⟩:=hu vs u;simp only [e1,e2,e3,e4]
def aY {f:FuncId} {args:(Nat→Value)→Array Value} {jx:(Nat→Value)→World→Prop} {C:(Nat→Value)→List aM} {R:(Nat→Value)→Value→List aM→Prop} (ct: ∀vs,Ct P f (args vs) (jx vs) (C vs) (R vs)) (tk:List Nat) (v:(Nat→Value)→Value) (gv:List ((Nat→Value)→HB)) (hp: ∀vs w,SE U w0 w (C vs) (s.vA P n ez hs i vs)→jx vs w) (hR: ∀vs u C',R vs u C'→u=v (ik vs i u)∧C'=gv.map fun a=>(a (ik vs i u)).gf) (h: ∀vs,(s.ox P n ez hs i vs (wx P),(s.D P n ez hs vs).jh tk)=(some (f,args vs),C vs):=by intro _;kernel_rfl):ke P n U w0 s ez hs i ⟨tk,v,gv⟩:=by
 refine ⟨fun vs Q' w K hS=>?_⟩
 have hh:=h vs
 simp only [bI] at hh
 obtain ⟨h1,h2⟩:=hh
 obtain ⟨x,hx,h1⟩:=S.dU h1
 simp only at hS
 rw [h2] at hS
 unfold wx at h1
 split at h1
 ·rename_i f' tA hr
  simp only [a9,bI] at h1
  obtain ⟨rfl,rfl⟩:=h1
  exact CI x _ hx hr (ct vs) (hp vs w ⟨K,hS⟩) hS fun u C' w' hr' hN=>by
   exact qly
 ·cases h1
def ib {α:Type} (K:Kd α) (r:Nat) (A:(Nat→Value)→OA) (c:(Nat→Value)→Nat) (xs:(Nat→Value)→List α) (B:(Nat→Value)→OA) (k c2:(Nat→Value)→Nat) (ys:(Nat→Value)→List α) (hn: ∀vs w,SE U w0 w [K.row (A vs) (c vs) (xs vs)] (s.vA P n ez hs i vs)→K.Rd (B vs) (ys vs) w) (h: ∀vs,(s.ox P n ez hs i vs (uy P),(s.D P n ez hs vs).jh [r],fK P K.e K.sz)=(some (K.e,.slice (A vs) (xs vs).length (c vs),.slice (B vs) (k vs) (c2 vs)),[K.row (A vs) (c vs) (xs vs)],true):=by intro _;kernel_rfl) (hk: ∀vs,(ys vs).length=k vs:=by intro _;rfl) (hb: ∀vs,(xs vs).length+k vs≤1073741824:=by intro _;omega) (hu: ∀vs u,xs (ik vs i u)=xs vs∧ys (ik vs i u)=ys vs:=by intro _ _;exact ⟨rfl,rfl⟩):ke P n U w0 s ez hs i ⟨[r],fun vs=>.slice (ak (vs i)) (xs vs++ys vs).length (an (vs i)),[fun vs=>.k (K.row (ak (vs i)) (an (vs i)) (xs vs++ys vs))]⟩:=by
 refine ⟨fun vs Q' w K' hS=>?_⟩
 have hh:=h vs
 simp only [bI] at hh
 obtain ⟨h1,h2,h3⟩:=hh
 obtain ⟨x,hx,h1⟩:=S.dU h1
 simp only at hS
 rw [h2] at hS
 refine tg K (i':=0) hx h1 h3 hS rfl (hn vs w ⟨K',hS⟩) (hk vs) (hb vs) fun A' c' w' hw=>?_
 exact qea
def cR {α:Type} (K:Kd α) (r:Nat) (A:(Nat→Value)→OA) (c:(Nat→Value)→Nat) (xs:(Nat→Value)→List α) (k o:Nat) (x y:(Nat→Value)→α) (t:TypeId) (v:(Nat→Value)→Value) (hk: ∀vs,(xs vs)[k]? =some (x vs)) (h: ∀vs,(s.ox P n ez hs i vs stO,(s.D P n ez hs vs).jh [r],(bc P (sizeOf t),(v vs).cells.toList.all (·.oneCell'),Nat.ble (o+(v vs).cells.size) K.sz),bE.ba (K.f (x vs)) o (v vs).cells.toList)=(some (t,((cz (A vs)).add (k*K.sz)).add o,v vs),[K.row (A vs) (c vs) (xs vs)],(some (v vs).cells.size,true,true),K.f (y vs)):=by intro _;kernel_rfl) (hu: ∀vs u,A (ik vs i u)=A vs∧c (ik vs i u)=c vs∧xs (ik vs i u)=xs vs∧y (ik vs i u)=y vs:=by intro _ _;exact ⟨rfl,rfl,rfl,rfl⟩):ke P n U w0 s ez hs i ⟨[r],fun _=>undef,[fun vs=>.k (K.row (A vs) (c vs) ((xs vs).set k (y vs)))]⟩:=by
 refine ⟨fun vs Q' w K' hS=>?_⟩
 have hh:=h vs
 simp only [bI] at hh
 obtain ⟨h1,h2,⟨h5,h6,h7⟩,h8⟩:=hh
 obtain ⟨z,hx,h1⟩:=S.dU h1
 simp only at hS
 rw [h2] at hS
 refine E_ K (i':=0) hx h1 (by rw [h5,h6,h7]) hS rfl (hk vs) h8 fun w' hw=>⟨rfl,?_⟩
 obtain ⟨e1,e2,e3,e4⟩:=hu vs undef
 simp only [fm,List.map_nil,e1,e2,e3,e4]
 exact hw
end
