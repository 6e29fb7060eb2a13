/- For the law of worlds: The engine. -/
import Derived.Test.YtfookmefmjhonaaGreatZ06
set_option linter.all false
namespace Go.bE
open Go.RowKit
section
variable {P:Program} {n:Nat} {U:Nat→Prop} {w0 w:World} {Q:Exit→Act→World→Prop} {s:S}
def a5:Value→Nat
 |.pointer (some a)=>a.block
 |.slice (some a) _ _=>a.block
 |_=>0
def ak:Value→OA
 |.slice A _ _=>A
 |_=>none
def an:Value→Nat
 |.slice _ _ c=>c
 |_=>0
def ag (v:Value) (k:Nat):Value:=match v with|.agg cs=>cs.getD k undef|_=>undef
def tp (v:Value) (k:Nat):Value:=match v with|.tuple cs=>cs.getD k undef|_=>undef
structure Ek where
 tk:List Nat
 v:(Nat→Value)→Value
 gv:List ((Nat→Value)→HB)
abbrev Ez:=List (Nat×Ek)
def Ez.at:Ez→Nat→Option Ek
 | [],_=>none
 |(j,v)::r,i=>bif Nat.beq j i then some v else Ez.at r i
structure Ev where
 V:List Value
 R:List (Option Nat×Option Nat×HB)
 M:List (List Nat×List Nat×Nat)
 hs:List Nat
 eL:List Nat
 eR:List Nat
 rd:List (Nat×Nat)
instance:Inhabited Ev:=⟨⟨[],[],[],[],[],[],[]⟩⟩
def Ev.hb (x:Ev) (r:Nat):HB:=(x.R.getD r (none,none,.k aM.emp)).2.2
def Ev.pr (x:Ev) (r:Nat):Option Nat:=(x.R.getD r (none,none,.k aM.emp)).1
def Ev.rs (x:Ev):Rs:=x.R.map fun r=>(r.1,r.2.1)
def iw (i:Nat):List (Option Nat×Option Nat×HB)→List Nat→List (Option Nat×Option Nat×HB)
 |R,[]=>R
 |R,c::tk=>iw i (R.set c ((R.getD c (none,none,.k aM.emp)).1,some i,(R.getD c (none,none,.k aM.emp)).2.2)) tk
def Ev.news (x:Ev) (k:Nat):List Nat:=(List.range k).map (x.R.length+ ·)
def kU (P:Program) (R:List (Option Nat×Option Nat×HB)) (L:Env) (hs:List Nat):Op×TypeId→Option (Nat×List Nat×Nat×Nat×TypeId×List Value)
 |(.store t x y,_)=>
  match L.ev x,hs with
  |.pointer (some ⟨b,o,none⟩),c::hs=>
   match R[c]?with
   |some (_,_,.b g t' cs)=>
    match bc P (sizeOf t) with
    |some sz=>bif Nat.beq (L.ev y).cells.toList.length sz&&Nat.ble (o+sz) cs.length&&(L.ev y).cells.toList.all (·.oneCell') then some (c,hs,b,g,t',ba cs o (L.ev y).cells.toList) else none
    |none=>none
   |_=>none
  |_,_=>none
 |_=>none
def eu (P:Program) (n:Nat) (ops:Array Oper) (T:kG) (L:Env) (ez:Ez) (vs:Nat→Value) (i:Nat) (x:Ev):Option Ev:=
 match ez.at i with
 |some k=>some {x with V:=x.V++ [k.v (mask (own T i) vs)],M:=x.M++ [(k.tk,x.news k.gv.length,x.hs.length)],R:=iw i x.R k.tk++k.gv.map fun a=>(some i,none,a (mask (own T i) vs))}
 |none=>
  match jw P n ops (x.R.map (·.2.2)) (cI ops T L (vl x.V) i) x.hs i with
  |some (v,hN,b,g)=>some {x with V:=x.V++ [v],M:=x.M++ [([],[],hN.length)],hs:=hN,eL:=b::x.eL,eR:=g::x.eR,rd:=bif Nat.blt hN.length x.hs.length then (i,x.hs.headD 0)::x.rd else x.rd}
  |none=>
   bif !iU n ops i then none else
   match ef ops (cI ops T L (vl x.V) i) i with
   |none=>none
   |some o=>
    match kU P x.R (cI ops T L (vl x.V) i) x.hs o with
    |some (c,hN,b,g,t,cs)=>some {x with V:=x.V++ [undef],M:=x.M++ [([c],x.news 1,hN.length)],R:=iw i x.R [c]++ [(some i,none,.b g t cs)],hs:=hN,eL:=b::x.eL,eR:=g::x.eR}
    |none=>
     match nU P (a5 (vs i)) (ex (cI ops T L (vl x.V) i) o) with
     |some (.cells cs t (0,0),.value v)=>some {x with V:=x.V++ [v],M:=x.M++ [([],x.news 1,x.hs.length)],R:=x.R++ [(some i,none,.b (a5 (vs i)) t cs.toList)],eL:=a5 v::x.eL,eR:=a5 (vs i)::x.eR}
     |_=>none
def gd (P:Program) (n:Nat) (ops:Array Oper) (T:kG) (L:Env) (ez:Ez) (vs:Nat→Value):Nat→Ev→Option Ev
 |0,x=>some x
 |k+1,x=>match gd P n ops T L ez vs k x with
  |some y=>eu P n ops T L ez vs k y
  |none=>none
def eM: ∀ {tk:List Nat} {i:Nat} {R:List (Option Nat×Option Nat×HB)},(iw i R tk).length=R.length
 | [],_,_=>rfl
 |c::tk,i,R=>by rw [iw,eM,cX]
def BL: ∀ {tk:List Nat} {i:Nat} {R:List (Option Nat×Option Nat×HB)} {r:Nat},((iw i R tk).getD r (none,none,.k aM.emp)).2.2=(R.getD r (none,none,.k aM.emp)).2.2
 | [],_,_,_=>rfl
 |c::tk,i,R,r=>by
  rw [iw,BL]
  exact qim
def BM: ∀ {tk:List Nat} {i:Nat} {R:List (Option Nat×Option Nat×HB)} {r:Nat},((iw i R tk).getD r (none,none,.k aM.emp)).1=(R.getD r (none,none,.k aM.emp)).1
 | [],_,_,_=>rfl
 |c::tk,i,R,r=>by
  rw [iw,BM]
  exact qim
structure Ev.Ext (x y:Ev):Prop where
 V: ∃W,y.V=x.V++W
 M: ∃W,y.M=x.M++W
 len:x.R.length≤y.R.length
 hb: ∀r,r<x.R.length→y.hb r=x.hb r
 pr: ∀r,r<x.R.length→y.pr r=x.pr r
 eq:y.eL=y.eR→x.eL=x.eR
 rd: ∀p∈x.rd,p∈y.rd
def Ev.Ext.refl (x:Ev):x.Ext x:=⟨⟨[],by simp⟩,⟨[],by simp⟩,bO _,fun _ _=>rfl,fun _ _=>rfl,id,fun _ h=>h⟩
def Ev.Ext.trans {x y z:Ev} (h:x.Ext y) (k:y.Ext z):x.Ext z:=by
 obtain ⟨W1,h1⟩:=h.V
 obtain ⟨W2,h2⟩:=k.V
 obtain ⟨N1,h3⟩:=h.M
 obtain ⟨N2,h4⟩:=k.M
 exact ⟨⟨W1++W2,by rw [h2,h1,cH]⟩,⟨N1++N2,by rw [h4,h3,cH]⟩,eF h.len k.len,fun r hr=>(k.hb r (dY hr h.len)).trans (h.hb r hr),fun r hr=>(k.pr r (dY hr h.len)).trans (h.pr r hr),fun e=>h.eq (k.eq e),fun p hp=>k.rd p (h.rd p hp)⟩
def Ev.DJ {x:Ev} {R:List (Option Nat×Option Nat×HB)} {V:List Value} {M:List (List Nat×List Nat×Nat)} {hs eL eR:List Nat} {rd:List (Nat×Nat)} {i:Nat} {tk:List Nat} (r:Nat) (hr:r<x.R.length):Ev.hb ⟨V,iw i x.R tk++R,M,hs,eL,eR,rd⟩ r=x.hb r:=by
 unfold Ev.hb
 rw [bA,lW (by rw [eM];exact hr),← bA]
 exact BL
def Ev.DL {x:Ev} {R:List (Option Nat×Option Nat×HB)} {V:List Value} {M:List (List Nat×List Nat×Nat)} {hs eL eR:List Nat} {rd:List (Nat×Nat)} {i:Nat} {tk:List Nat} (r:Nat) (hr:r<x.R.length):Ev.pr ⟨V,iw i x.R tk++R,M,hs,eL,eR,rd⟩ r=x.pr r:=by
 unfold Ev.pr
 rw [bA,lW (by rw [eM];exact hr),← bA]
 exact BM
def gC {ops:Array Oper} {T:kG} {L:Env} {ez:Ez} {vs:Nat→Value} {i:Nat} {x y:Ev} (h:eu P n ops T L ez vs i x=some y):x.Ext y∧y.V.length=x.V.length+1∧y.M.length=x.M.length+1:=by
 unfold eu at h
 split at h
 ·simp only [a9] at h
  subst h
  exact ⟨⟨⟨_,rfl⟩,⟨_,rfl⟩,by simp [eM],fun r hr=>Ev.DJ r hr,fun r hr=>Ev.DL r hr,id,fun _ h=>h⟩,by simp,by simp⟩
 ·split at h
  ·simp only [a9] at h
   subst h
   refine ⟨⟨⟨_,rfl⟩,⟨_,rfl⟩,bO _,fun r hr=>rfl,fun r hr=>rfl,fun e=>?_,fun p hp=>?_⟩,by simp,by simp⟩
   ·simp only [List.cons.injEq] at e
    exact e.2
   ·simp only
    cases Nat.blt _ _ with
    |true=>exact bH _ hp
    |false=>exact hp
  ·cases hd:(!iU n ops i) with
   |true=>rw [hd] at h;cases h
   |false=>
    rw [hd,cond_false] at h
    split at h
    ·cases h
    ·split at h
     ·simp only [a9] at h
      subst h
      exact ⟨⟨⟨_,rfl⟩,⟨_,rfl⟩,by simp [eM],fun r hr=>Ev.DJ r hr,fun r hr=>Ev.DL r hr,fun e=>(List.cons.inj e).2,fun _ h=>h⟩,by simp,by simp⟩
     ·split at h
      ·simp only [a9] at h
       subst h
       exact ⟨⟨⟨_,rfl⟩,⟨_,rfl⟩,by simp,fun r hr=>Ev.DJ (i:=i) (tk:= []) r hr,fun r hr=>Ev.DL (i:=i) (tk:= []) r hr,fun e=>(List.cons.inj e).2,fun _ h=>h⟩,by simp,by simp⟩
      ·cases h
def fT {ops:Array Oper} {T:kG} {L:Env} {ez:Ez} {vs:Nat→Value} {x z:Ev}: ∀ {k m:Nat},k≤m→gd P n ops T L ez vs m x=some z→ ∃y,gd P n ops T L ez vs k x=some y∧y.Ext z∧y.V.length=x.V.length+k∧y.M.length=x.M.length+k:=by
 have hlen: ∀ {m:Nat} {z:Ev},gd P n ops T L ez vs m x=some z→z.V.length=x.V.length+m∧z.M.length=x.M.length+m:=by
  intro m
  induction m with
  |zero=>intro z h;cases h;exact ⟨rfl,rfl⟩
  |succ m ih=>
   intro z h
   simp only [gd] at h
   split at h
   ·rename_i y hy
    obtain ⟨h1,h2⟩:=ih hy
    obtain ⟨_,h3,h4⟩:=gC h
    omega
   ·cases h
 intro k m hk
 induction m generalizing z with
 |zero=>
  intro h
  have:k=0:=by omega
  subst this
  exact ⟨z,h,Ev.Ext.refl _,hlen h⟩
 |succ m ih=>
  intro h
  rcases Nat.eq_or_lt_of_le hk with e|e
  ·subst e;exact ⟨z,h,Ev.Ext.refl _,hlen h⟩
  ·have h0:=h
   simp only [gd] at h
   split at h
   ·rename_i y hy
    obtain ⟨y1,h1,h2,h3⟩:=ih (by omega) hy
    exact ⟨y1,h1,h2.trans (gC h).1,h3⟩
   ·cases h
def LF {T:kG} {vs:Nat→Value} {i j:Nat} {v:Value} (h:i∉own T j):mask (own T j) (ik vs i v)=mask (own T j) vs:=by rw [uJ];exact uI h
def yX {vs:Nat→Value} {i j:Nat} {v:Value} (h:j≠i):ik vs i v j=vs j:=by rw [uJ];simp [DI,h]
def kR (vs:Nat→Value) (i:Nat) (v:Value):ik vs i v i=v:=by rw [uJ];simp [DI]
def DM {ops:Array Oper} {T:kG} {L:Env} {ez:Ez} {vs:Nat→Value} {i j:Nat} {v:Value} {x:Ev} (hj:j≠i) (h:i∉own T j):eu P n ops T L ez (ik vs i v) j x=eu P n ops T L ez vs j x:=by
 unfold eu
 rw [LF h,yX hj]
def xh {ops:Array Oper} {T:kG} {L:Env} {ez:Ez} {vs:Nat→Value} {i:Nat} {v:Value} {x:Ev} (h2:FY n ops T=true) (hi:i<ops.size): ∀ {k:Nat},k≤i→gd P n ops T L ez (ik vs i v) k x=gd P n ops T L ez vs k x
 |0,_=>rfl
 |k+1,hk=>by
  simp only [gd]
  rw [xh h2 hi (by omega)]
  cases gd P n ops T L ez vs k x with
  |none=>rfl
  |some y=>
   refine DM (by omega) fun hm=>?_
   rcases dx.1 hm with e|e
   ·omega
   ·have:=og h2 k (by omega) i e;omega
def DN {H:List HB} {hs hN:List Nat} {b g:Nat} {t:TypeId} {u v:Value} (hr:jP P H t u hs=some (v,hN,b,g)) (he:b=g) (hB: ∀g t cs,H[hs.headD 0]? =some (.b g t cs)→(pH g t cs).P w):
 ∃a,u=.pointer (some a)∧(loadVar t a).run P w=.ok v w:=by
 unfold jP at hr
 split at hr
 ·rename_i _ _ b' o c lu
  split at hr
  ·rename_i g' T cs hc
   have hP:=hB g' T cs hc
   split at hr
   ·rename_i U9
    split at hr
    ·rename_i u hu
     simp only [a9,bI] at hr
     obtain ⟨rfl,rfl,rfl,rfl⟩:=hr
     subst he
     exact ⟨_,rfl,qQ hP U9 hu⟩
    ·cases hr
   ·rename_i U9
    split at hr
    ·rename_i sz pq
     cases hb:Nat.beq ((cs.drop o).take sz).length sz with
     |false=>rw [hb] at hr;cases hr
     |true=>
      rw [hb] at hr
      simp only [cond_true,a9,bI] at hr
      obtain ⟨rfl,rfl,rfl,rfl⟩:=hr
      subst he
      have e:=dh hb
      exact ⟨_,rfl,qS hP U9 (by rw [pq,e]) (by rw [e])⟩
    ·cases hr
   ·cases hr
  ·cases hr
 ·cases hr
def BN {H:List HB} {hs hN:List Nat} {b g:Nat} {t:TypeId} {u v:Value} (hr:jP P H t u hs=some (v,hN,b,g)):Nat.blt hN.length hs.length=true:=by
 unfold jP at hr
 split at hr
 ·rename_i _ _ b' o c lu
  have key:Nat.blt lu.length (c::lu).length=true:=by simp [Nat.blt]
  split at hr
  ·split at hr
   ·split at hr
    ·simp only [a9,bI] at hr
     rw [← hr.2.1];exact key
    ·cases hr
   ·split at hr
    ·rename_i sz _
     cases hb:Nat.beq ((List.drop o _).take sz).length sz with
     |false=>rw [hb] at hr;cases hr
     |true=>
      rw [hb] at hr
      simp only [cond_true,a9,bI] at hr
      rw [← hr.2.1];exact key
    ·cases hr
   ·cases hr
  ·cases hr
 ·cases hr
def pA {ops:Array Oper} {H:List HB} {L:Env} {hs:List Nat} {i:Nat} {r:Value×List Nat×Nat×Nat} (h:jw P n ops H L hs i=some r):(∃t x ty,ef ops L i=some (.load t x,ty)∧jP P H t (L.ev x) hs=some r)∨(jw P n ops [] L hs i=some r):=by
 unfold jw at h⊢
 cases hd:iU n ops i with
 |false=>rw [hd] at h;cases h
 |true=>
  rw [hd,cond_true] at h
  rw [cond_true]
  cases ho:ops[i]?with
  |none=>rw [ho] at h;cases h
  |some o=>
   rw [ho] at h
   simp only at h⊢
   cases hw:gT ops L o with
   |none=>rw [hw] at h;cases h
   |some q=>
    rw [hw] at h
    cases q with
    |false=>exact .inr h
    |true=>
     simp only at h⊢
     cases hA:L.jk o with
     |false=>rw [hA] at h;cases h
     |true=>
      rw [hA,cond_true] at h
      rw [cond_true]
      have hx:ef ops L i=some (o.op,o.type):=by simp [ef,ho,hw,hA]
      cases gX:o.op with
      |load t x=>rw [gX] at h hx;exact .inl ⟨t,x,_,hx,h⟩
      |_=>rw [gX] at h;exact .inr h
def LG {β:Type} {l k:List β} {a b:β} (h:l++ [a]=k++ [b]):l=k∧a=b:=by
 have:=List.append_inj' h rfl
 exact ⟨this.1,(List.cons.inj this.2).1⟩
def BO {H:List HB} {hs hN:List Nat} {b g:Nat} {t:TypeId} {u v:Value} (hr:jP P H t u hs=some (v,hN,b,g)): ∃c,hs=c::hN:=by
 unfold jP at hr
 split at hr
 ·rename_i _ _ b' o c lu
  split at hr
  ·split at hr
   ·split at hr
    ·simp only [a9,bI] at hr
     exact ⟨c,by rw [hr.2.1]⟩
    ·cases hr
   ·split at hr
    ·rename_i sz _
     cases hb:Nat.beq ((List.drop o _).take sz).length sz with
     |false=>rw [hb] at hr;cases hr
     |true=>
      rw [hb] at hr
      simp only [cond_true,a9,bI] at hr
      exact ⟨c,by rw [hr.2.1]⟩
    ·cases hr
   ·cases hr
  ·cases hr
 ·cases hr
def BP {ops:Array Oper} {L:Env} {hs:List Nat} {i:Nat} {r:Value×List Nat×Nat×Nat} (h:jw P n ops [] L hs i=some r): ∀H lu,jw P n ops H L lu i=some (r.1,lu,r.2.2)∧r.2.1=hs:=by
 intro H lu
 unfold jw at h⊢
 cases hd:iU n ops i with
 |false=>rw [hd] at h;cases h
 |true=>
  rw [hd,cond_true] at h
  rw [cond_true]
  cases ho:ops[i]?with
  |none=>rw [ho] at h;cases h
  |some o=>
   rw [ho] at h
   simp only at h⊢
   cases hw:gT ops L o with
   |none=>rw [hw] at h;cases h
   |some q=>
    rw [hw] at h
    cases q with
    |false=>simp only [a9] at h;subst h;exact ⟨rfl,rfl⟩
    |true=>
     simp only at h⊢
     cases hA:L.jk o with
     |false=>rw [hA] at h;cases h
     |true=>
      rw [hA,cond_true] at h
      rw [cond_true]
      cases gX:o.op with
      |load t x=>
       rw [gX] at h
       simp only at h
       exfalso
       unfold jP at h
       split at h
       ·simp at h
       ·cases h
      |store t x y=>rw [gX] at h;cases h
      |_=>
       rw [gX] at h
       simp only at h⊢
       split at h
       ·exact qi8
       ·split at h
        ·exact qi8
        ·exact qi8
        ·cases h
def PT {ops:Array Oper} {H:List HB} {L:Env} {hs hN:List Nat} {i b g:Nat} {v:Value} (h:jw P n ops H L hs i=some (v,hN,b,g)):hN=hs∨ ∃c,hs=c::hN:=by
 rcases pA h with ⟨t,x,ty,_,h1⟩|h1
 ·exact .inr (BO h1)
 ·exact .inl (BP h1 [] []).2
def uL {R:List (Option Nat×Option Nat×HB)} {L:Env} {hs hN:List Nat} {o:Op×TypeId} {c b g:Nat} {t:TypeId} {cs:List Value} (h:kU P R L hs o=some (c,hN,b,g,t,cs)):hs=c::hN:=by
 unfold kU at h
 split at h
 ·split at h
  ·split at h
   ·split at h
    ·rename_i sz _
     cases hb:(Nat.beq _ sz&&Nat.ble _ _&&_:Bool) with
     |false=>rw [hb] at h;cases h
     |true=>
      rw [hb] at h
      simp only [cond_true,a9,bI] at h
      rw [h.1,h.2.1]
    ·cases h
   ·cases h
  ·cases h
 ·cases h
def j4 (R:List (Option Nat×Option Nat×HB)):List (Option Nat×Option Nat):=R.map fun r=>(r.1,r.2.1)
def uM: ∀ {tk:List Nat} {i:Nat} {R R':List (Option Nat×Option Nat×HB)},j4 R=j4 R'→j4 (iw i R tk)=j4 (iw i R' tk)
 | [],_,_,_,h=>h
 |c::tk,i,R,R',h=>by
  rw [iw,iw]
  refine uM ?_
  unfold j4 at h⊢
  rw [List.map_set,List.map_set,h]
  have:(R.getD c (none,none,.k aM.emp)).1=(R'.getD c (none,none,.k aM.emp)).1:=by
   have h2:=congrArg (fun l=>(l.getD c (none,none)).1) h
   simp only [bA,fk] at h2⊢
   cases e1:R[c]? <;>cases e2:R'[c]? <;>simp_all
  rw [this]
def qT {ops:Array Oper} {T:kG} {L:Env} {ez:Ez} {us:Nat→Value} {i:Nat} {x x':Ev} (h:eu P n ops T L ez us i x=some x'): ∃tk k hl,x'.M=x.M++ [(tk,x.news k,hl)]∧(∃N,x'.R=iw i x.R tk++N∧N.length=k∧ ∀r∈N,r.1=some i∧r.2.1=none)∧x'.hs.length=hl∧ ∃q,x'.hs=x.hs.drop q:=by
 unfold eu at h
 split at h
 ·rename_i k _
  simp only [a9] at h
  subst h
  exact ⟨k.tk,k.gv.length,_,rfl,⟨_,rfl,by simp,fun r hr=>by obtain ⟨a,_,rfl⟩:=List.mem_map.1 hr;exact ⟨rfl,rfl⟩⟩,rfl,0,rfl⟩
 ·split at h
  ·rename_i v hN b g hq
   simp only [a9] at h
   subst h
   refine ⟨[],0,_,rfl,⟨[],by simp [iw],rfl,fun r hr=>by cases hr⟩,rfl,?_⟩
   rcases PT hq with e|⟨c,e⟩
   ·exact ⟨0,e⟩
   ·exact ⟨1,by rw [e];rfl⟩
  ·cases hd:(!iU n ops i) with
   |true=>rw [hd] at h;cases h
   |false=>
    rw [hd,cond_false] at h
    split at h
    ·cases h
    ·split at h
     ·rename_i c hN b g t cs ji
      simp only [a9] at h
      subst h
      exact ⟨[c],1,_,rfl,⟨_,rfl,rfl,fun r hr=>qr7⟩,rfl,1,by rw [uL ji];rfl⟩
     ·split at h
      ·simp only [a9] at h
       subst h
       exact ⟨[],1,_,rfl,⟨_,rfl,rfl,fun r hr=>qr7⟩,rfl,0,rfl⟩
      ·cases h
def uN {ops:Array Oper} {T:kG} {L:Env} {ez:Ez} {us vs:Nat→Value} {i:Nat} {x y x' y':Ev} (hx:eu P n ops T L ez us i x=some x') (hy:eu P n ops T L ez vs i y=some y') (IP:x.hs=y.hs) (hb:j4 x.R=j4 y.R) (hM:x'.M=y'.M):x.M=y.M∧x'.hs=y'.hs∧j4 x'.R=j4 y'.R:=by
 obtain ⟨tk,k,hl,h1,⟨N,h2,h3,h4⟩,h5,q,h6⟩:=qT hx
 obtain ⟨tk',k',Hg,PU,⟨N',h2',h3',h4'⟩,h5',q',h6'⟩:=qT hy
 rw [h1,PU] at hM
 obtain ⟨e1,e2⟩:=LG hM
 simp only [bI] at e2
 obtain ⟨rfl,e3,rfl⟩:=e2
 have hlen:x.R.length=y.R.length:=by have:=congrArg List.length hb;simpa [j4] using this
 have hk:k=k':=by
  have:=congrArg List.length e3
  simpa [Ev.news] using this
 refine ⟨e1,?_,?_⟩
 ·rw [h6,h6',IP]
  rw [h6] at h5
  rw [h6'] at h5'
  rw [IP] at h5
  rw [cL] at h5 h5'
  rcases Nat.lt_or_ge q y.hs.length with a|a
  ·have:q=q':=by omega
   rw [this]
  ·rw [eJ a,eJ (by omega)]
 ·rw [h2,h2']
  unfold j4
  rw [cT,cT]
  have e4:=uM (tk:=tk) (i:=i) hb
  unfold j4 at e4
  rw [e4]
  congr 1
  refine List.ext_getElem (by simp;omega) fun j j1 j2=>?_
  simp only [cM] at j1 j2
  simp only [List.getElem_map]
  rw [(h4 _ (List.getElem_mem j1)).1,(h4 _ (List.getElem_mem j1)).2,(h4' _ (List.getElem_mem j2)).1,(h4' _ (List.getElem_mem j2)).2]
def S.x0 (s:S) (hs:List Nat):Ev:=⟨[],s.H.map fun h=>(none,none,h),[],hs,[],[],[]⟩
def S.eff (P:Program) (n:Nat) (s:S) (ez:Ez) (hs:List Nat) (vs:Nat→Value):Option Ev:=gd P n s.iz s.mI s.L ez vs s.iz.size (s.x0 hs)
def S.D (P:Program) (n:Nat) (s:S) (ez:Ez) (hs:List Nat) (vs:Nat→Value):Ev:=(s.eff P n ez hs vs).getD default
def uu:Nat→Value:=fun _=>undef
def kT (T:kG) (x:Ev) (i:Nat):List Nat:=(List.range x.R.length).filter (stays T x.rs i)
def vM (T:kG) (x:Ev) (m:Nat):Mv:=(List.range m).map fun i=>((x.M.getD i ([],[],0)).1,(x.M.getD i ([],[],0)).2.1,kT T x i)
def Ev.fin (x:Ev):List HB:=x.R.map fun r=>match r.2.1 with|none=>r.2.2|some _=>.k aM.emp
def Ev.jh (x:Ev) (l:List Nat):List aM:=l.map fun r=>(x.hb r).gf
def DO (T:kG) (R:Rs) (r:Nat) (vs:Nat→Value):Nat→Value:=match R.prod r with|some p=>mask (own T p) vs|none=>uu
def S.enx (s:S) (x:Ev):S:=⟨s.env x.V s.iz.size,x.fin,s.rks⟩
def Xm:List Nat→List Nat→Bool
 | [],[]=>true
 |a::l,b::k=>Nat.beq a b&&Xm l k
 |_,_=>false
def mEq:List (List Nat×List Nat×Nat)→List (List Nat×List Nat×Nat)→Bool
 | [],[]=>true
 |a::l,b::k=>Xm a.1 b.1&&Xm a.2.1 b.2.1&&Nat.beq a.2.2 b.2.2&&mEq l k
 |_,_=>false
def yY: ∀ {l k:List Nat},Xm l k=true→l=k
 | [],[],_=>rfl
 |a::l,b::k,h=>by
  simp only [Xm,da] at h
  rw [dh h.1,yY h.2]
 | [],_::_,h=>by cases h
 |_::_,[],h=>by cases h
def LH: ∀ {l k:List (List Nat×List Nat×Nat)},mEq l k=true→l=k
 | [],[],_=>rfl
 |(a,a2,a3)::l,(b,b2,b3)::k,h=>by
  simp only [mEq,da] at h
  rw [yY h.1.1.1,yY h.1.1.2,dh h.1.2,LH h.2]
 | [],_::_,h=>by cases h
 |_::_,[],h=>by cases h
def kV:List Nat→Nat
 | []=>0
 |i::l=>Nat.lor (Nat.shiftLeft 1 i) (kV l)
def Sp (T:kG) (m:Nat):Bool:=(List.range m).all fun i=>(T.j7 i).all fun j=>Nat.beq (Nat.lor (kV (T.j7 i)) (kV (T.j7 j))) (kV (T.j7 i))
def _r (P:Program) (n:Nat) (s:S) (ez:Ez) (hs:List Nat) (vs:Nat→Value):Prop:=
 (s.xz&&FY n s.iz s.mI&&Sp s.mI s.iz.size&&P.follows .mixedOrders&&(s.eff P n ez hs vs).isSome&&XK s.mI (s.D P n ez hs uu).rs s.iz.size&&Mv.ok (vM s.mI (s.D P n ez hs uu) s.iz.size) s.mI (s.D P n ez hs uu).rs s.iz.size&&
  mEq (s.D P n ez hs vs).M (s.D P n ez hs uu).M&&((s.D P n ez hs vs).rd.all fun p=>stays s.mI (s.D P n ez hs uu).rs p.1 p.2&&Nat.blt p.2 (s.D P n ez hs uu).rs.length)&&Xm ((List.range (s.D P n ez hs uu).rs.length).filter fun r=>((s.D P n ez hs uu).rs.prod r).isNone) (List.range s.H.length))=true∧
 (s.D P n ez hs vs).eL=(s.D P n ez hs vs).eR∧
 (ez.map fun p=>(p.2.v (mask (own s.mI p.1) vs),p.2.gv.map fun a=>a (mask (own s.mI p.1) vs)))=ez.map fun p=>(p.2.v vs,p.2.gv.map fun a=>a vs)
structure ke (P:Program) (n:Nat) (U:Nat→Prop) (w0:World) (s:S) (ez:Ez) (hs:List Nat) (i:Nat) (k:Ek):Prop where
 go: ∀vs Q' w K,SS U w0 w ((s.D P n ez hs vs).jh k.tk++((s.D P n ez hs vs).jh (kT s.mI (s.D P n ez hs vs) i)++K))→
  One P n s.iz Q' i (s.env (s.D P n ez hs vs).V i) w fun v w'=>v=k.v (ik vs i v)∧SS U w0 w' ((k.gv.map fun a=>(a (ik vs i v)).gf)++((s.D P n ez hs vs).jh (kT s.mI (s.D P n ez hs vs) i)++K))
def PV (P:Program) (n:Nat) (U:Nat→Prop) (w0:World) (s:S) (ez:Ez) (hs:List Nat):Ez→Prop
 | []=>True
 |(i,k)::r=>ke P n U w0 s ez hs i k∧PV P n U w0 s ez hs r
def PV.get {ez:Ez} {hs:List Nat}: ∀ {l:Ez} {i:Nat} {k:Ek},PV P n U w0 s ez hs l→l.at i=some k→ke P n U w0 s ez hs i k
 |(j,u)::r,i,k,h,hi=>by
  simp only [Ez.at] at hi
  cases hb:Nat.beq j i with
  |true=>
   exact qjm
  |false=>rw [hb] at hi;exact h.2.get hi
def Ez.mem: ∀ {l:Ez} {i:Nat} {k:Ek},l.at i=some k→(i,k)∈l
 |(j,u)::r,i,k,hi=>by
  simp only [Ez.at] at hi
  cases hb:Nat.beq j i with
  |true=>
   rw [hb] at hi
   simp only [cond_true,a9] at hi
   subst hi
   have:=dh hb
   subst this
   exact cE
  |false=>rw [hb] at hi;exact bH _ (Ez.mem hi)
def rS {x y:Ev} (h:x.Ext y) {j:Nat} (hj:j<x.V.length):vl y.V j=vl x.V j:=by
 obtain ⟨W,hW⟩:=h.V
 unfold vl
 exact qr8
def Sq {x y:Ev} (h:x.Ext y) {j:Nat} (hj:j<x.M.length):y.M.getD j ([],[],0)=x.M.getD j ([],[],0):=by
 obtain ⟨W,hW⟩:=h.M
 exact qr8
def Fs {V:List Value} {v:Value} {i:Nat} (h:V.length=i):vl (V++ [v]) i=v:=by
 subst h
 unfold vl
 exact qsl
def DP {M:List (List Nat×List Nat×Nat)} {v:List Nat×List Nat×Nat} {i:Nat} (h:M.length=i):(M++ [v]).getD i ([],[],0)=v:=by
 subst h
 exact qsl
def DQ {w':World}: ∀ {R:List (Option Nat×Option Nat×HB)} {K:List aM},SS U w0 w' (K++(R.filterMap fun r=>match r.2.1 with|none=>some r.2.2.gf|some _=>none))→SS U w0 w' (K++(R.map fun r=>match r.2.1 with|none=>r.2.2|some _=>HB.k aM.emp).map HB.gf)
 | [],_,h=>h
 |(p,none,a)::R,K,h=>by
  simp only [List.filterMap_cons,fm] at h⊢
  have h2:SS U w0 w' ((K++ [a.gf])++(R.filterMap fun r=>match r.2.1 with|none=>some r.2.2.gf|some _=>none)):=by rw [cH];exact h
  have h3:=DQ h2
  rw [cH] at h3
  exact h3
 |(p,some c,a)::R,K,h=>by
  simp only [List.filterMap_cons,fm] at h⊢
  have h3:=(DQ h).KC
  exact h3.perm (List.perm_middle (l₁:=K)).symm
def HK {x:Ev}:((List.range x.rs.length).filter fun r=>(x.rs.cons r).isNone).map (fun r=>(x.hb r).gf)=x.R.filterMap fun r=>match r.2.1 with|none=>some r.2.2.gf|some _=>none:=by
 obtain ⟨V,R,M,hs,eL,eR,rd⟩:=x
 have key: ∀(R' R0:List (Option Nat×Option Nat×HB)),R=R0++R'→((List.range' R0.length R'.length).filter fun r=>((Ev.mk V R M hs eL eR rd).rs.cons r).isNone).map (fun r=>((Ev.mk V R M hs eL eR rd).hb r).gf)=R'.filterMap fun r=>match r.2.1 with|none=>some r.2.2.gf|some _=>none:=by
  intro R'
  induction R' with
  |nil=>intro R0 _;rfl
  |cons r R' ih=>
   intro R0 hR
   have ih:=ih (R0++ [r]) (by rw [hR,cH];rfl)
   rw [bm,List.length_singleton] at ih
   rw [dM,List.range'_succ,List.filter_cons]
   have h1:(Ev.mk V R M hs eL eR rd).rs.cons R0.length=r.2.1:=by
    simp [Ev.rs,Rs.cons,hR,bA]
   have h2:(Ev.mk V R M hs eL eR rd).hb R0.length=r.2.2:=by
    simp [Ev.hb,hR,bA]
   rw [h1]
   obtain ⟨p,c,a⟩:=r
   cases c with
   |none=>
    simp only [Option.isNone_none,if_true,fm,List.filterMap_cons,h2]
    rw [ih]
   |some c=>
    simp only [Option.isNone_some,Bool.false_eq_true,if_false,List.filterMap_cons]
    exact ih
 have:=key R [] rfl
 rw [← this]
 simp [Ev.rs,List.range_eq_range']
end
section
variable {P:Program} {n:Nat} {U:Nat→Prop} {w0 w:World} {Q:Exit→Act→World→Prop} {s:S}
def uR: ∀ {l:List Nat} {k:Nat},(kV l).testBit k=true↔k∈l
 | [],k=>by simp [kV]
 |i::l,k=>by
  have ih:=uR (l:=l) (k:=k)
  have e:kV (i::l)=(1<<<i)|||kV l:=rfl
  rw [e,Nat.testBit_or,Bool.or_eq_true,ih,Nat.one_shiftLeft,Nat.testBit_two_pow,dx]
  simp [eq_comm]
def LR {T:kG} {m:Nat} (h:Sp T m=true): ∀i,i<m→ ∀j∈T.j7 i,∀a∈T.j7 j,a∈T.j7 i:=by
 intro i hi j hj a ha
 have h1:=dE.1 (dE.1 h i (List.mem_range.2 hi)) j hj
 have h2:kV (T.j7 i)|||kV (T.j7 j)=kV (T.j7 i):=dh h1
 rw [← uR,← h2,Nat.testBit_or,Bool.or_eq_true]
 exact .inr (uR.2 ha)
def P7 {H H':List HB} {t:TypeId} {u:Value} {c:Nat} {hs:List Nat} (h:H[c]? =H'[c]?):jP P H t u (c::hs)=jP P H' t u (c::hs):=by
 cases u<;>try rfl
 rename_i p
 cases p with
 |none=>rfl
 |some a=>
  obtain ⟨b,o,k⟩:=a
  cases k with
  |none=>simp only [jP,h]
  |some _=>rfl
def P8 {R R':List (Option Nat×Option Nat×HB)} {L:Env} {o:Op×TypeId} {c:Nat} {hs:List Nat} (h:(R[c]?).map (·.2.2)=(R'[c]?).map (·.2.2)):kU P R L (c::hs) o=kU P R' L (c::hs) o:=by
 obtain ⟨op,ty⟩:=o
 cases op<;>try rfl
 rename_i t x y
 unfold kU
 simp only
 cases hx:L.ev x<;>try rfl
 rename_i p
 cases p with
 |none=>rfl
 |some a=>
  obtain ⟨b,o,k⟩:=a
  cases k with
  |some _=>rfl
  |none=>
   cases e1:R[c]?with
   |none=>cases e2:R'[c]?with
    |none=>simp only [e1,e2]
    |some z=>rw [e1,e2] at h;cases h
   |some z=>cases e2:R'[c]?with
    |none=>rw [e1,e2] at h;cases h
    |some z'=>
     rw [e1,e2] at h
     obtain ⟨p1,p2,z⟩:=z
     obtain ⟨q1,q2,z'⟩:=z'
     simp only [Option.map_some,a9] at h
     subst h
     simp only [e1,e2]
     cases z<;>rfl
def P9 {ops:Array Oper} {H:List HB} {L:Env} {hs:List Nat} {i:Nat} {t ty:TypeId} {x:Operand} (hd:iU n ops i=true) (h:ef ops L i=some (.load t x,ty)):jw P n ops H L hs i=jP P H t (L.ev x) hs:=by
 unfold jw
 rw [hd,cond_true]
 unfold ef at h
 cases ho:ops[i]?with
 |none=>rw [ho] at h;cases h
 |some o=>
  rw [ho] at h
  simp only at h⊢
  cases hw:gT ops L o with
  |none=>rw [hw] at h;simp at h
  |some q=>
   cases q with
   |false=>rw [hw] at h;simp at h
   |true=>
    cases hA:L.jk o with
    |false=>rw [hw,hA] at h;simp at h
    |true=>
     rw [hw,hA] at h
     simp at h
     simp only [cond_true]
     rw [h.1]
def LS {ops:Array Oper} {H:List HB} {L:Env} {hs:List Nat} {i:Nat} {r:Value×List Nat×Nat×Nat} (h:jw P n ops H L hs i=some r):iU n ops i=true:=by
 unfold jw at h
 cases hd:iU n ops i with
 |false=>rw [hd] at h;cases h
 |true=>rfl
def Vm {ops:Array Oper} {H H':List HB} {L:Env} {hs hN:List Nat} {i b g:Nat} {v:Value} (h:jw P n ops H L hs i=some (v,hN,b,g)) (hH:Nat.blt hN.length hs.length=true→ ∀c,hs=c::hN→H[c]? =H'[c]?):jw P n ops H' L hs i=some (v,hN,b,g):=by
 have hd:=LS h
 rcases pA h with ⟨t,x,ty,hx,h1⟩|h1
 ·obtain ⟨c,hc⟩:=BO h1
  have e:=hH (BN h1) c hc
  rw [P9 hd hx,← h1,hc,P7 e]
 ·have:=BP h1 H' hs
  have e:=this.2
  simp only at e
  subst e
  exact this.1
def LU {x y:Ev} {c:Nat} (hl:x.R.length=y.R.length) (h:x.hb c=y.hb c):(x.R[c]?).map (·.2.2)=(y.R[c]?).map (·.2.2):=by
 rcases Nat.lt_or_ge c x.R.length with hc|hc
 ·have Sn:c<y.R.length:=hl▸hc
  unfold Ev.hb at h
  simp only [bA,dw hc,dw Sn,Option.getD_some] at h
  simp only [dw hc,dw Sn,Option.map_some,h]
 ·rw [List.getElem?_eq_none hc,List.getElem?_eq_none (hl▸hc)]
def Sv {ops:Array Oper} {T:kG} {L L':Env} {ez:Ez} {us:Nat→Value} {k:Nat} {x y x':Ev} {r:Value×List Nat×Nat×Nat} (hx:eu P n ops T L ez us k x=some x') (DS:ez.at k=none) (hL:cI ops T L (vl x.V) k=L') (IP:x.hs=y.hs) (hl:x.R.length=y.R.length)
 (F: ∀c,(k,c)∈x'.rd→x.hb c=y.hb c) (h:jw P n ops (x.R.map (·.2.2)) L' x.hs k=some r):jw P n ops (y.R.map (·.2.2)) L' y.hs k=some r:=by
 obtain ⟨v,hN,b,g⟩:=r
 rw [← IP]
 refine Vm h fun l8 c hc=>?_
 rw [fk,fk]
 refine LU hl (F c ?_)
 unfold eu at hx
 rw [DS] at hx
 simp only at hx
 rw [hL,h] at hx
 simp only [a9] at hx
 rw [← hx]
 simp only
 rw [l8,cond_true,hc]
 exact cE
def LV {ops:Array Oper} {T:kG} {L:Env} {ez:Ez} {us vs:Nat→Value} {k:Nat} {x y x' y':Ev} (hx:eu P n ops T L ez us k x=some x') (hy:eu P n ops T L ez vs k y=some y') (pP:cI ops T L (vl x.V) k=cI ops T L (vl y.V) k)
 (hm:mask (own T k) us=mask (own T k) vs) (hk:us k=vs k) (IP:x.hs=y.hs) (hl:x.R.length=y.R.length) (hM:x'.M=y'.M) (Vn:x.M.length=k) (F: ∀c,((k,c)∈x'.rd∨(k,c)∈y'.rd∨c∈(x'.M.getD k ([],[],0)).1)→x.hb c=y.hb c):
 ∃v W tk,x'.V=x.V++ [v]∧y'.V=y.V++ [v]∧x'.R=iw k x.R tk++W∧y'.R=iw k y.R tk++W:=by
 have hyM:y.M.length=k:=by
  have h1:=(gC hx).2.2
  have h2:=(gC hy).2.2
  rw [hM] at h1
  omega
 cases DS:ez.at k with
 |some e=>
  unfold eu at hx hy
  rw [DS] at hx hy
  simp only [a9] at hx hy
  rw [← hx,← hy,hm]
  exact ⟨_,_,_,rfl,rfl,rfl,rfl⟩
 |none=>
  have ag8:jw P n ops (x.R.map (·.2.2)) (cI ops T L (vl x.V) k) x.hs k=jw P n ops (y.R.map (·.2.2)) (cI ops T L (vl y.V) k) y.hs k:=by
   cases hq:jw P n ops (x.R.map (·.2.2)) (cI ops T L (vl x.V) k) x.hs k with
   |some r=>exact (Sv hx DS pP IP hl (fun c h=>F c (.inl h)) (by rw [pP] at hq;exact hq)).symm
   |none=>
    cases Vo:jw P n ops (y.R.map (·.2.2)) (cI ops T L (vl y.V) k) y.hs k with
    |none=>rfl
    |some r=>
     have:=Sv (y:=x) hy DS pP.symm IP.symm hl.symm (fun c h=>(F c (.inr (.inl h))).symm) (by rw [← pP] at Vo;exact Vo)
     rw [this] at hq
     cases hq
  have IL:=hx
  have nA:=hy
  unfold eu at hx hy
  rw [DS] at hx hy
  simp only at hx hy
  rw [← ag8] at hy
  cases hq:jw P n ops (x.R.map (·.2.2)) (cI ops T L (vl x.V) k) x.hs k with
  |some r=>
   rw [hq] at hx hy
   simp only [a9] at hx hy
   rw [← hx,← hy]
   exact ⟨_,[],[],rfl,rfl,by simp [iw],by simp [iw]⟩
  |none=>
   rw [hq] at hx hy
   simp only at hx hy
   cases hd:iU n ops k with
   |false=>rw [hd] at hx;cases hx
   |true=>
    rw [hd] at hx hy
    simp only [Bool.not_true,cond_false] at hx hy
    rw [← pP] at hy
    cases ho:ef ops (cI ops T L (vl x.V) k) k with
    |none=>rw [ho] at hx;cases hx
    |some o=>
     rw [ho] at hx hy
     simp only at hx hy
     have ji:kU P x.R (cI ops T L (vl x.V) k) x.hs o=kU P y.R (cI ops T L (vl x.V) k) y.hs o:=by
      rw [← IP]
      have dir: ∀c lu,x.hs=c::lu→c∈(x'.M.getD k ([],[],0)).1→kU P x.R (cI ops T L (vl x.V) k) x.hs o=kU P y.R (cI ops T L (vl x.V) k) x.hs o:=by
       intro c lu e hc
       rw [e]
       exact P8 (LU hl (F c (.inr (.inr hc))))
      cases h1:kU P x.R (cI ops T L (vl x.V) k) x.hs o with
      |some r=>
       obtain ⟨c,hN,b,g,t,cs⟩:=r
       rw [← h1]
       refine dir c hN (uL h1) ?_
       rw [h1] at hx
       simp only [a9] at hx
       rw [← hx]
       simp only
       rw [DP Vn]
       exact cE
      |none=>
       cases h2:kU P y.R (cI ops T L (vl x.V) k) x.hs o with
       |none=>rfl
       |some r=>
        obtain ⟨c,hN,b,g,t,cs⟩:=r
        rw [← h1,← h2]
        refine dir c hN (uL h2) ?_
        rw [hM]
        rw [← IP,h2] at hy
        simp only [a9] at hy
        rw [← hy]
        simp only
        rw [DP hyM]
        exact cE
     rw [← ji] at hy
     cases h1:kU P x.R (cI ops T L (vl x.V) k) x.hs o with
     |some r=>
      obtain ⟨c,hN,b,g,t,cs⟩:=r
      rw [h1] at hx hy
      simp only [a9] at hx hy
      rw [← hx,← hy]
      exact ⟨_,_,[c],rfl,rfl,rfl,rfl⟩
     |none=>
      rw [h1] at hx hy
      simp only at hx hy
      rw [← hk] at hy
      split at hx
      ·rename_i cs t v hn
       rw [hn] at hy
       simp only [a9] at hx hy
       rw [← hx,← hy]
       exact ⟨_,_,[],rfl,rfl,rfl,rfl⟩
      ·cases hx
def LW {x y X Y:Ev} (hx:x.Ext X) (hy:y.Ext Y) (h:X.M=Y.M) (hl:x.M.length=y.M.length):x.M=y.M:=by
 obtain ⟨W1,h1⟩:=hx.M
 obtain ⟨W2,h2⟩:=hy.M
 rw [h1,h2] at h
 exact (List.append_inj h hl).1
def rT {ops:Array Oper} {T:kG} {L:Env} {ez:Ez} {us vs:Nat→Value} {x0:Ev}: ∀ {k:Nat} {x y:Ev},gd P n ops T L ez us k x0=some x→gd P n ops T L ez vs k x0=some y→x.M=y.M→x.hs=y.hs∧j4 x.R=j4 y.R
 |0,x,y,hx,hy,_=>by cases hx;cases hy;exact ⟨rfl,rfl⟩
 |k+1,x,y,hx,hy,hM=>by
  have hlx:=(fT (bO _) hx)
  have hly:=(fT (bO _) hy)
  simp only [gd] at hx hy
  split at hx
  ·rename_i x1 h1
   split at hy
   ·rename_i y1 h2
    obtain ⟨e1,_,e2⟩:=gC hx
    obtain ⟨e3,_,e4⟩:=gC hy
    obtain ⟨_,a1,_,_,a2⟩:=fT (bO _) h1
    obtain ⟨_,b1,_,_,b2⟩:=fT (bO _) h2
    have:=LW e1 e3 hM (by rw [hM] at e2;omega)
    obtain ⟨i1,i2⟩:=rT h1 h2 this
    exact (uN hx hy i1 i2 hM).2
   ·cases hy
  ·cases hx
def xj {R R':List (Option Nat×Option Nat×HB)} (h:j4 R=j4 R'):R.length=R'.length:=by
 have:=congrArg List.length h
 simpa [j4] using this
def Fx {ops:Array Oper} {T:kG} {L:Env} {ez:Ez} {us vs:Nat→Value} {x0 X Y:Ev} {m:Nat} (hV0:x0.V= []) (hM0:x0.M= []) (hX:gd P n ops T L ez us m x0=some X) (hY:gd P n ops T L ez vs m x0=some Y) (hM:X.M=Y.M) (CF: ∀i,i<m→ ∀j∈T.j7 i,j<i)
 (A:Nat→Prop) (hA: ∀j,j<m→A j→ ∀a∈T.j7 j,A a) (Xn: ∀j,A j→us j=vs j) (hrx: ∀p∈X.rd,∀a,X.pr p.2=some a→a∈T.j7 p.1) (hry: ∀p∈Y.rd,∀a,X.pr p.2=some a→a∈T.j7 p.1) (Zx: ∀p,p∈X.rd∨p∈Y.rd→p.2<X.R.length)
 (IW: ∀i,i<m→ ∀c∈(X.M.getD i ([],[],0)).1,∀a,X.pr c=some a→a∈T.j7 i): ∀ {k:Nat} {x y:Ev},k≤m→gd P n ops T L ez us k x0=some x→gd P n ops T L ez vs k x0=some y→
  (∀j,j<k→A j→vl x.V j=vl y.V j)∧ ∀r,(∀a,x.pr r=some a→A a)→x.hb r=y.hb r
 |0,x,y,_,hx,hy=>by cases hx;cases hy;exact ⟨fun _ _ _=>rfl,fun _ _=>rfl⟩
 |k+1,x',y',hk,hx,hy=>by
  obtain ⟨_,ex,eX,elx,emx⟩:=fT (k:=k+1) hk hX
  obtain ⟨_,ey,eY,ely,emy⟩:=fT (k:=k+1) hk hY
  rw [hx] at ex;cases ex
  rw [hy] at ey;cases ey
  have hM':x'.M=y'.M:=LW eX eY hM (by omega)
  simp only [gd] at hx hy
  split at hx
  ·rename_i x h1
   split at hy
   ·rename_i y h2
    obtain ⟨i1,i2⟩:=Fx hV0 hM0 hX hY hM CF A hA Xn hrx hry Zx IW (by omega) h1 h2
    obtain ⟨e1,e1V,e1M⟩:=gC hx
    obtain ⟨e2,e2V,e2M⟩:=gC hy
    obtain ⟨_,ex,eXx,lx,mx⟩:=fT (k:=k) (by omega) hX
    rw [h1] at ex;cases ex
    obtain ⟨_,ey,eYy,ly,my⟩:=fT (k:=k) (by omega) hY
    rw [h2] at ey;cases ey
    simp only [hV0,hM0,fA,Nat.zero_add] at lx ly mx my
    have hMk:x.M=y.M:=LW eXx eYy hM (by omega)
    obtain ⟨IP,NI⟩:=rT h1 h2 hMk
    have hl:=xj NI
    have _F: ∀r,x.R.length≤r→ ∀z:Ev,z.R.length≤r→z.hb r=.k aM.emp:=fun r _ z hz=>by
     unfold Ev.hb;rw [bA,List.getElem?_eq_none hz];rfl
    obtain ⟨tk,q,It,a1,⟨N,a2,a3,a4⟩,_⟩:=qT hx
    obtain ⟨tk',q',asR,b1,⟨N',b2,b3,b4⟩,_⟩:=qT hy
    have ag9:=(uN hx hy IP NI hM').2.2
    have Hg:=xj ag9
    have old: ∀r,r<x.R.length→(∀a,x'.pr r=some a→A a)→x'.hb r=y'.hb r:=fun r hr hp=>by
     rw [e1.hb r hr,e2.hb r (hl▸hr)]
     exact i2 r fun a ha=>hp a (by rw [e1.pr r hr];exact ha)
    have LX: ∀r,x'.R.length≤r→x'.hb r=y'.hb r:=fun r hr=>by
     unfold Ev.hb
     rw [bA,bA,List.getElem?_eq_none hr,List.getElem?_eq_none (Hg▸hr)]
    by_cases Vp:A k
    ·have P_:k<m:=by omega
     have hF: ∀c,(∀a,X.pr c=some a→a∈T.j7 k)→x.hb c=y.hb c:=fun c hc=>by
      rcases Nat.lt_or_ge c x.R.length with h|h
      ·exact i2 c fun a ha=>hA k P_ Vp a (hc a (by rw [eXx.pr c h];exact ha))
      ·rw [_F c h x h,_F c h y (by omega)]
     have nD: ∀j∈own T k,us j=vs j:=fun j hj=>by
      rcases dx.1 hj with e|e
      ·rw [e];exact Xn k Vp
      ·exact Xn j (hA k P_ Vp j e)
     obtain ⟨v,W,tk2,c1,c2,c3,c4⟩:=LV hx hy (jR fun j hj=>i1 j (CF k P_ j (dq.1 hj)) (hA k P_ Vp j (dq.1 hj)))
      (by
       funext j
       unfold mask
       cases hj:has (own T k) j with
       |false=>rfl
       |true=>exact nD j (dq.1 hj)) (Xn k Vp) IP hl hM' mx (fun c hc=>hF c (by
       rcases hc with h|h|h
       ·exact hrx _ (eX.rd _ h)
       ·exact hry _ (eY.rd _ h)
       ·exact IW k P_ c (by rw [Sq eX (by rw [e1M];omega)];exact h)))
     refine ⟨fun j hj hAj=>?_,fun r hp=>?_⟩
     ·rcases Nat.lt_succ_iff_lt_or_eq.1 hj with e|e
      ·rw [rS e1 (by omega),rS e2 (by omega)];exact i1 j e hAj
      ·subst e;rw [c1,c2,Fs lx,Fs ly]
     ·rcases Nat.lt_or_ge r x.R.length with h|h
      ·exact old r h hp
      ·unfold Ev.hb
       rw [c3,c4,bA,bA,gD (by rw [eM];exact h),gD qry,eM,eM,hl]
    ·refine ⟨fun j hj hAj=>?_,fun r hp=>?_⟩
     ·have:j≠k:=fun e=>Vp (e▸hAj)
      have XO:j<k:=by omega
      rw [rS e1 (by omega),rS e2 (by omega)];exact i1 j XO hAj
     ·rcases Nat.lt_or_ge r x.R.length with h|h
      ·exact old r h hp
      ·rcases Nat.lt_or_ge r x'.R.length with h3|h3
       ·exfalso
        refine Vp (hp k ?_)
        unfold Ev.pr
        rw [a2,bm,eM] at h3
        rw [a2,bA,gD (by rw [eM];exact h),eM,dw (by omega)]
        exact (a4 _ (List.getElem_mem _)).1
       ·exact LX r h3
   ·cases hy
  ·cases hx
end
