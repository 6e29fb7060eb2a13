/- For the law of worlds: The engine. -/
import Derived.Test.YtfookmefmjhonaaGreatZ03
set_option linter.all false
namespace Go.bE
open Go.RowKit
section
variable {P:Program} {n:Nat} {ops:Array Oper} {Q:Exit→Act→World→Prop} {w w':World} {L:Env} {U:Nat→Prop} {w0:World} {H:List aM}
def iG {l:List aM} {i:Nat} {A:aM} (h:l[i]? =some A):l.Perm (A::l.eraseIdx i):=by
 induction l generalizing i with
 |nil=>simp at h
 |cons B l ih=>
  cases i with
  |zero=>simp only [gQ,a9] at h;subst h;exact List.Perm.refl _
  |succ i=>exact ((ih TF).cons B).trans (List.Perm.swap A B _)
def p' {l:List aM} {i:Nat} {A B:aM} (h:l[i]? =some A):(B::l.eraseIdx i).Perm (l.set i B):=by
 obtain ⟨hl,_⟩:=aN.1 h
 have h2:(l.set i B)[i]? =some B:=by simp [hl]
 have h3:=(iG h2).symm
 rwa [List.eraseIdx_set_eq] at h3
def SS.J7 {i:Nat} {c:Ck} (h:SS U w0 w H) (hi:H[i]? =some (aM.of c)): ∃F,St F w w [c]∧ ∀w' c',St F w w' [c']→SS U w0 w' (H.set i (aM.of c')):=by
 obtain ⟨F,h1,h2⟩:=(h.perm (iG hi)).ck
 exact ⟨F,h1,fun w' c' hs=>(h2 w' c' hs).perm (p' hi)⟩
def tR {i c g o:Nat} {t t' ty:TypeId} {x y:Operand} {cs:List Value} {v:Value} {Post:Value→World→Prop} (hx:ef ops L i=some (.store t x y,ty)) (ha:L.ev x=.pointer (some ⟨g,o,none⟩)) (hv:L.ev y=v)
 (hS:SS U w0 w H) (hc:H[c]? =some (bJ g t' cs)) (hs:bc P (sizeOf t)=some v.cells.size) (ho:o+v.cells.size≤cs.length) (h1:v.cells.toList.all (·.oneCell')=true)
 (hp: ∀w',SS U w0 w' (H.set c (bJ g t' (ba cs o v.cells.toList)))→Ch (fun b=>b=g) w w'→Post undef w'):One P n ops Q i L w Post:=by
 obtain ⟨F,h2,h3⟩:=hS.J7 hc
 exact GB hx ha hv h2 (c:=0) rfl hs ho h1 fun w' hw r5=>hp w' (h3 w' _ hw) r5
def vB {i c g o m cap:Nat} {e t ty:TypeId} {sz:Nat} {x y:Operand} {A:OA} {cs:List Value} {v:Value} {Post:Value→World→Prop} (hx:ef ops L i=some (.store t x y,ty)) (ha:L.ev x=.pointer (some ⟨g,o,none⟩)) (hv:L.ev y=v)
 (hS:SS U w0 w H) (hA:A=some ⟨g,0,none⟩) (hc:H[c]? =some (row e sz (.slice A m cap) m cs)) (hs:bc P (sizeOf t)=some v.cells.size) (ho:o+v.cells.size≤cs.length) (h1:v.cells.toList.all (·.oneCell')=true)
 (hp: ∀w',SS U w0 w' (H.set c (row e sz (.slice A m cap) m (ba cs o v.cells.toList)))→Ch (fun b=>b=g) w w'→Post undef w'):One P n ops Q i L w Post:=by
 obtain ⟨F,h2,h3⟩:=hS.J7 hc
 exact vC hx ha hv h2 hA (c:=0) rfl hs ho h1 fun w' hw r5=>hp w' (h3 w' _ hw) r5
def AO {i c k c2 m:Nat} {t t2 ty e:TypeId} {sz bytes:Nat} {z:Value} {x y:Operand} {A:OA} {cap:Nat} {a:Addr} {cs news:List Value} {Post:Value→World→Prop}
 (hx:ef ops L i=some (.call {callee:=.builtin .append,args:= #[x,y],argTypes:= #[t,t2]},ty)) (zG:t2=t) (ha:L.ev x=.slice A m cap) (hy:L.ev y=.slice (some a) k c2)
 (hS:SS U w0 w H) (hc:H[c]? =some (row e sz (.slice A m cap) m cs)) (hu:P.underlying t=some (.slice e)) (hi:(P.info? e).map (fun i=>(i.zero,i.size,i.bytes))=some (some z,sz,bytes)) (hz:z.cells.size=sz) (pq:0<sz)
 (hl:news.length=k*sz) (AP: ∀j u,news[j]? =some u→w.cell? (a.add j)=some u) (h1:news.all (·.oneCell')=true) (Iw:m+k≤maxLen) (hb:(m+k)*bytes≤140737488355328)
 (hp: ∀A' k8 w',SS U w0 w' (H.set c (row e sz (.slice A' (m+k) k8) (m+k) (cs++news)))→Post (.slice A' (m+k) k8) w'):One P n ops Q i L w Post:=by
 obtain ⟨F,h2,h3⟩:=hS.J7 hc
 exact C_ hx zG ha hy h2 (c:=0) rfl hu hi hz pq hl AP h1 Iw hb fun A' k8 w' hw _=>hp A' k8 w' (h3 w' _ hw)
def SS.TG {e:TypeId} {sz:Nat} (h:SS U w0 w H):SS U w0 w (row e sz (.slice none 0 0) 0 []::H):=
 h.wC (Ch.refl _ _) (World.ownsRow_nil w 0 e sz) (fun b hb=>by cases hb)
def AQ {i c k c2 m m2:Nat} {t t2 ty e:TypeId} {sz bytes:Nat} {z:Value} {x y:Operand} {A:OA} {cap:Nat} {a:Addr} {cs news wL:List Value} {Post:Value→World→Prop}
 (hx:ef ops L i=some (.call {callee:=.builtin .append,args:= #[x,y],argTypes:= #[t,t2]},ty)) (zG:t2=t) (ha:L.ev x=.slice A m cap) (hy:L.ev y=.slice (some a) k c2)
 (hS:SS U w0 w H) (hc:H[c]? =some (row e sz (.slice A m cap) m cs)) (hu:P.underlying t=some (.slice e)) (hi:(P.info? e).map (fun i=>(i.zero,i.size,i.bytes))=some (some z,sz,bytes)) (hz:z.cells.size=sz) (pq:0<sz)
 (hl:news.length=k*sz) (AP: ∀j u,news[j]? =some u→w.cell? (a.add j)=some u) (h1:news.all (·.oneCell')=true) (FW:m+k=m2) (rD:cs++news=wL) (Iw:m+k≤maxLen) (hb:(m+k)*bytes≤140737488355328)
 (hp: ∀A' k8 w',SS U w0 w' (H.set c (row e sz (.slice A' m2 k8) m2 wL))→Post (.slice A' m2 k8) w'):One P n ops Q i L w Post:=by
 subst FW
 subst rD
 exact AO hx zG ha hy hS hc hu hi hz pq hl AP h1 Iw hb hp
def vD {i c g o m cap:Nat} {e t ty:TypeId} {sz:Nat} {x y:Operand} {A:OA} {cs wL:List Value} {v:Value} {Post:Value→World→Prop} (hx:ef ops L i=some (.store t x y,ty)) (ha:L.ev x=.pointer (some ⟨g,o,none⟩)) (hv:L.ev y=v)
 (hS:SS U w0 w H) (hA:A=some ⟨g,0,none⟩) (hc:H[c]? =some (row e sz (.slice A m cap) m cs)) (hs:bc P (sizeOf t)=some v.cells.size) (ho:o+v.cells.size≤cs.length) (h1:v.cells.toList.all (·.oneCell')=true)
 (rD:ba cs o v.cells.toList=wL) (hp: ∀w',SS U w0 w' (H.set c (row e sz (.slice A m cap) m wL))→Ch (fun b=>b=g) w w'→Post undef w'):One P n ops Q i L w Post:=by
 subst rD
 exact vB hx ha hv hS hA hc hs ho h1 hp
def SS.front {K:List aM} (h:SS U w0 w (H++K)):SS U w0 w H:=by
 refine ⟨h.ch,?_⟩
 obtain ⟨F,hF,hf⟩:=h.own
 obtain ⟨F1,F2,h1,_,h3,_⟩:=aM.all_append H K F w hF
 exact ⟨F1,h3,fun b hb=>hf b ((h1 b).2 (.inl hb))⟩
end
section
variable {P:Program} {n:Nat} {ops:Array Oper} {Q:Exit→Act→World→Prop} {w:World} {L:Env} {U:Nat→Prop} {w0:World}
abbrev Rs:=List (Option Nat×Option Nat)
def Rs.prod (R:Rs) (r:Nat):Option Nat:=(R.getD r (none,none)).1
def Rs.cons (R:Rs) (r:Nat):Option Nat:=(R.getD r (none,none)).2
def Wn (a:Option Nat) (i:Nat):Bool:=match a with|some x=>Nat.beq x i|none=>false
def lL {a:Option Nat} {i:Nat}:Wn a i=true↔a=some i:=by
 cases a with
 |none=>simp [Wn]
 |some x=>simp only [Wn,a9];exact ⟨dh,fun h=>by rw [h];exact Nat.beq_refl i⟩
def mask (S:List Nat) (vs:Nat→Value):Nat→Value:=fun k=>bif has S k then vs k else undef
def own (T:kG) (i:Nat):List Nat:=i::T.j7 i
def NL (T:kG) (R:Rs) (ck:Nat→(Nat→Value)→aM) (r:Nat) (vs:Nat→Value):aM:=
 match R.prod r with|some p=>ck r (mask (own T p) vs)|none=>ck r (fun _=>undef)
def alive (R:Rs) (D:Nat→Bool) (r:Nat):Bool:=(match R.prod r with|some p=>D p|none=>true)&&(match R.cons r with|some c=> !D c|none=>true)
def fS (R:Rs) (i r:Nat):Bool:=Wn (R.cons r) i
def lr (R:Rs) (i r:Nat):Bool:=Wn (R.prod r) i
def stays (T:kG) (R:Rs) (i r:Nat):Bool:=(match R.prod r with|some p=>has (T.j7 i) p|none=>true)&&(match R.cons r with|some c=>has (T.j7 c) i|none=>true)
def XK (T:kG) (R:Rs) (m:Nat):Bool:=
 (List.range R.length).all fun r=>(match R.prod r with|some p=>Nat.blt p m|none=>true)&&(match R.cons r with|some c=>Nat.blt c m&& !has (T.j7 c) c&&(match R.prod r with|some p=>has (T.j7 c) p|none=>true)|none=>true)
def PQ (T:kG) (R:Rs) (ck:Nat→(Nat→Value)→aM) (f:Nat→Bool) (vs:Nat→Value):List aM:=((List.range R.length).filter f).map fun r=>NL T R ck r vs
def filter_or {f g:Nat→Bool}: ∀ {l:List Nat},(∀x∈l,f x=true→g x=true→False)→(l.filter fun x=>f x||g x).Perm (l.filter f++l.filter g)
 | [],_=>List.Perm.refl _
 |x::l,h=>by
  have ih:=filter_or (l:=l) fun y hy=>h y (bH _ hy)
  have hx:=h x cE
  cases hf:f x with
  |true=>
   cases hg:g x with
   |true=>exact (hx hf hg).elim
   |false=>simpa [List.filter_cons,hf,hg] using ih
  |false=>
   cases hg:g x with
   |true=>simp only [List.filter_cons,hf,hg,Bool.false_or,if_true];exact (ih.cons x).trans List.perm_middle.symm
   |false=>simpa [List.filter_cons,hf,hg] using ih
def lM {f g:Nat→Bool} {l:List Nat} (h: ∀x∈l,f x=g x):l.filter f=l.filter g:=List.filter_congr h
def ObR (P:Program) (n:Nat) (ops:Array Oper) (Q:Exit→Act→World→Prop) (T:kG) (L:Env) (R:Rs) (VP:List ((Nat→Value)→Prop)) (ck:Nat→(Nat→Value)→aM) (U:Nat→Prop) (w0:World) (i:Nat):Prop:=
 ∀vs wi K,(∀j,has (T.j7 i) j=true→(VP.getD j fun _=>True) (mask (own T j) vs))→SS U w0 wi (PQ T R ck (fS R i) vs++(PQ T R ck (stays T R i) vs++K))→
  One P n ops Q i (cI ops T L vs i) wi fun v Cz=>(VP.getD i fun _=>True) (mask (own T i) (DI vs i v))∧SS U w0 Cz (PQ T R ck (lr R i) (DI vs i v)++(PQ T R ck (stays T R i) vs++K))
def uI {S:List Nat} {vs:Nat→Value} {i:Nat} {v:Value} (h:i∉S):mask S (DI vs i v)=mask S vs:=by
 funext k
 unfold mask
 cases hk:has S k with
 |false=>rfl
 |true=>
  have:k≠i:=fun e=>h (e▸dq.1 hk)
  simp [DI,this]
def _l {id:Nat} (T:kG) (R:Rs) (VP:List ((Nat→Value)→Prop)) (ck:Nat→(Nat→Value)→aM) (m:Nat) (pq:ops.size=m) (hm:P.follows .mixedOrders=true) (hT:FY n ops T=true) (hR:XK T R m=true)
 (h0:SS U w0 w.drew (PQ T R ck (fun r=>(R.prod r).isNone) fun _=>undef)) (gX:jZ (ObR P n ops Q T L R VP ck U w0) m)
 (jJ: ∀vs w',(∀j,Nat.blt j m=true→(VP.getD j fun _=>True) (mask (own T j) vs))→SS U w0 w' (PQ T R ck (fun r=>(R.cons r).isNone) vs)→WO P n ops [] (cI ops T L vs m) Q w'):W P n L (.region id ops true) Q w:=by
 subst pq
 have hR': ∀r,r<R.length→(∀p,R.prod r=some p→p<ops.size)∧ ∀c,R.cons r=some c→c<ops.size∧c∉T.j7 c∧ ∀p,R.prod r=some p→p∈T.j7 c:=by
  intro r hr
  have h:=dE.1 hR r (List.mem_range.2 hr)
  simp only [da] at h
  refine ⟨fun p hp=>?_,fun c hc=>?_⟩
  ·have h1:=h.1
   rw [hp] at h1
   exact dF h1
  ·have h2:=h.2
   rw [hc] at h2
   simp only [da,Bool.not_eq_true'] at h2
   refine ⟨dF h2.1.1,fun hm=>?_,fun p hp=>?_⟩
   ·rw [dq.2 hm] at h2;simp at h2
   ·have h3:=h2.2
    rw [hp] at h3
    exact dq.1 h3
 refine _m T (fun D vs w'=>(∀p,D p=true→ ∀j∈T.j7 p,D j=true)∧(∀j,j<ops.size→D j=true→(VP.getD j fun _=>True) (mask (own T j) vs))∧SS U w0 w' (PQ T R ck (alive R D) vs)) hm hT ?_ ?_ ?_
 ·refine ⟨(fun _ h=>by cases h),(fun _ _ h=>by cases h),?_⟩
  refine h0.perm (List.Perm.of_eq ?_)
  unfold PQ
  refine congrArg _ (lM fun r _=>?_)
  unfold alive
  cases R.prod r with
  |none=>cases R.cons r<;>rfl
  |some p=>rfl
 ·rintro i hi D vs w' _n sR So ⟨vP,hV,hS⟩
  have hob:=gX.get hi
  have HJ:i∉T.j7 i:=fun hm=>by have:=(sR i hm).2;rw [_n] at this;cases this
  have hp: ∀r∈List.range R.length,(fS R i r||stays T R i r)=true→alive R D r=true:=by
   intro r hr h
   obtain ⟨h1,h2⟩:=hR' r (List.mem_range.1 hr)
   have hc:R.cons r=some i→ ∀p,R.prod r=some p→D p=true:=fun hc p hp=>(sR p ((h2 i hc).2.2 p hp)).2
   unfold alive
   simp only [Bool.or_eq_true] at h
   simp only [da]
   rcases h with h|h
   ·have Sn:=lL.1 h
    refine ⟨?_,?_⟩
    ·cases zK:R.prod r with
     |none=>rfl
     |some p=>exact hc Sn p zK
    ·rw [Sn];simp [_n]
   ·simp only [stays,da] at h
    refine ⟨?_,?_⟩
    ·cases zK:R.prod r with
     |none=>rfl
     |some p=>have h3:=h.1;rw [zK] at h3;exact (sR p (dq.1 h3)).2
    ·cases BJ:R.cons r with
     |none=>rfl
     |some c=>have h3:=h.2;rw [BJ] at h3;simp [So c (h2 c BJ).1 (dq.1 h3)]
  have _o: ∀r∈List.range R.length,fS R i r=true→stays T R i r=true→False:=by
   intro r hr h h'
   have hc:=lL.1 h
   simp only [stays,da] at h'
   have h3:=h'.2
   rw [hc] at h3
   exact HJ (dq.1 h3)
  have PS:((List.range R.length).filter (alive R D)).Perm ((List.range R.length).filter (fS R i)++((List.range R.length).filter (stays T R i)++(List.range R.length).filter fun r=>alive R D r&& !(fS R i r||stays T R i r))):=by
   have e:(List.range R.length).filter (alive R D)=(List.range R.length).filter fun r=>(fS R i r||stays T R i r)||(alive R D r&& !(fS R i r||stays T R i r)):=lM fun r hr=>by
    cases h:(fS R i r||stays T R i r) with
    |true=>simp [hp r hr h]
    |false=>simp
   rw [e,← cH]
   refine (filter_or fun r _ h1 h2=>?_).trans (List.Perm.append_right _ (filter_or _o))
   rw [h1] at h2
   simp at h2
  have U7:((List.range R.length).filter (alive R (Fq D i))).Perm ((List.range R.length).filter (lr R i)++((List.range R.length).filter (stays T R i)++(List.range R.length).filter fun r=>alive R D r&& !(fS R i r||stays T R i r))):=by
   have e:(List.range R.length).filter (alive R (Fq D i))=(List.range R.length).filter fun r=>lr R i r||(stays T R i r||(alive R D r&& !(fS R i r||stays T R i r))):=lM fun r hr=>by
    obtain ⟨h1,h2⟩:=hR' r (List.mem_range.1 hr)
    cases hg:lr R i r with
    |true=>
     have zK:=lL.1 hg
     unfold alive
     rw [zK]
     simp only [Fq,if_true,Bool.true_and,Bool.true_or]
     cases BJ:R.cons r with
     |none=>rfl
     |some c=>
      have h3:=(h2 c BJ).2.2 i zK
      have rz:c≠i:=fun e=>by subst e;exact HJ h3
      simp [rz,So c (h2 c BJ).1 h3]
    |false=>
     simp only [Bool.false_or]
     have zK:R.prod r≠some i:=fun e=>by rw [lr,lL.2 e] at hg;cases hg
     cases ht:fS R i r with
     |true=>
      have BJ:=lL.1 ht
      have hs:stays T R i r=false:=by
       cases h:stays T R i r with
       |false=>rfl
       |true=>exact (_o r hr ht h).elim
      simp [alive,BJ,hs,Fq]
     |false=>
      have BJ:R.cons r≠some i:=fun e=>by rw [fS,lL.2 e] at ht;cases ht
      have OF:alive R (Fq D i) r=alive R D r:=by
       unfold alive
       congr 1
       ·cases agY:R.prod r with
        |none=>rfl
        |some p=>have:p≠i:=fun e=>zK (by rw [agY,e]);simp [Fq,this]
       ·cases agZ:R.cons r with
        |none=>rfl
        |some c=>have:c≠i:=fun e=>BJ (by rw [agZ,e]);simp [Fq,this]
      rw [OF]
      cases hs:stays T R i r with
      |true=>simp [hp r hr (by simp [hs])]
      |false=>simp
   rw [e]
   refine (filter_or fun r hr h1 h2=>?_).trans (List.Perm.append_left _ (filter_or fun r _ h1 h2=>by rw [h1] at h2;simp at h2))
   have zK:=lL.1 h1
   simp only [Bool.or_eq_true,da] at h2
   rcases h2 with h2|h2
   ·simp only [stays,da] at h2
    have h3:=h2.1
    rw [zK] at h3
    exact HJ (dq.1 h3)
   ·have h3:=h2.1
    unfold alive at h3
    rw [zK] at h3
    simp [_n] at h3
  have xB:=hS.perm (PS.map fun r=>NL T R ck r vs)
  simp only [cT] at xB
  refine (hob vs w' _ (fun j hj=>hV j (sR j (dq.1 hj)).1 (sR j (dq.1 hj)).2) xB).mono ?_
  rintro v Cz ⟨hv,hs⟩
  have zX: ∀p,D p=true→i∉own T p:=by
   intro p zO hm
   rcases dx.1 hm with e|e
   ·subst e;rw [_n] at zO;cases zO
   ·have:=vP p zO i e;rw [_n] at this;cases this
  refine ⟨fun p zO j hj=>?_,fun j hj hd=>?_,?_⟩
  ·by_cases e:p=i
   ·subst e
    have:=(sR j hj).2
    simp [Fq,this]
   ·simp only [Fq,if_neg e] at zO
    have:=vP p zO j hj
    simp [Fq,this]
  ·by_cases e:j=i
   ·subst e;exact hv
   ·simp only [Fq,if_neg e] at hd
    rw [uI (zX j hd)]
    exact hV j hj hd
  ·have LB: ∀r,r∈(List.range R.length).filter (stays T R i)++(List.range R.length).filter (fun r=>alive R D r&& !(fS R i r||stays T R i r))→NL T R ck r (DI vs i v)=NL T R ck r vs:=by
    intro r hr
    have OF:alive R D r=true:=by
     rcases eG.1 hr with h|h
     ·obtain ⟨h1,h2⟩:=List.mem_filter.1 h
      exact hp r h1 (by simp [h2])
     ·have:=(List.mem_filter.1 h).2
      simp only [da] at this
      exact this.1
    unfold NL
    cases zK:R.prod r with
    |none=>rfl
    |some p=>
     unfold alive at OF
     rw [zK] at OF
     simp only [da] at OF
     simp only
     rw [uI (zX p OF.1)]
   have h5:=U7.map fun r=>NL T R ck r (DI vs i v)
   rw [cT] at h5
   rw [List.map_congr_left LB,cT] at h5
   exact hs.perm h5.symm
 ·rintro D vs w' iF ⟨vP,hV,hS⟩
  refine jJ vs w' (fun j hj=>hV j (dF hj) (iF j (dF hj))) (hS.perm (List.Perm.of_eq ?_))
  unfold PQ
  refine congrArg _ (lM fun r hr=>?_)
  obtain ⟨h1,h2⟩:=hR' r (List.mem_range.1 hr)
  unfold alive
  cases zK:R.prod r with
  |none=>
   cases BJ:R.cons r with
   |none=>rfl
   |some c=>simp [iF c (h2 c BJ).1]
  |some p=>
   have hp:=iF p (h1 p zK)
   cases BJ:R.cons r with
   |none=>simp [hp]
   |some c=>simp [hp,iF c (h2 c BJ).1]
def ik (vs:Nat→Value) (i:Nat) (v:Value):Nat→Value:=fun j=>bif Nat.beq j i then v else vs j
def uJ (vs:Nat→Value) (i:Nat) (v:Value):ik vs i v=DI vs i v:=by
 funext j
 unfold ik DI
 by_cases h:j=i
 ·subst h;simp
 ·rw [if_neg h]
  cases hb:Nat.beq j i with
  |true=>exact (h (dh hb)).elim
  |false=>rfl
abbrev Mv:=List (List Nat×List Nat×List Nat)
def Mv.ok (M:Mv) (T:kG) (R:Rs) (m:Nat):Bool:=
 (List.range m).all fun i=>let x:=M.getD i ([],[],[]);let f:=fun g=>(List.range R.length).filter g;(f (fS R i))==x.1&&(f (lr R i))==x.2.1&&(f (stays T R i))==x.2.2
def LC (T:kG) (R:Rs) (ck:List ((Nat→Value)→aM)) (l:List Nat) (vs:Nat→Value):List aM:=l.map fun r=>NL T R (fun r=>ck.getD r fun _=>aM.emp) r vs
def _p (P:Program) (n:Nat) (ops:Array Oper) (Q:Exit→Act→World→Prop) (T:kG) (L:Env) (R:Rs) (M:Mv) (VP:List ((Nat→Value)→Prop)) (ck:List ((Nat→Value)→aM)) (U:Nat→Prop) (w0:World) (i:Nat):Prop:=
 ∀vs wi K,(∀j,has (T.j7 i) j=true→(VP.getD j fun _=>True) (mask (own T j) vs))→SS U w0 wi (LC T R ck ((M.getD i ([],[],[])).1++(M.getD i ([],[],[])).2.2) vs++K)→
  One P n ops Q i (cI ops T L vs i) wi fun v Cz=>(VP.getD i fun _=>True) (mask (own T i) (ik vs i v))∧SS U w0 Cz (LC T R ck (M.getD i ([],[],[])).2.1 (ik vs i v)++(LC T R ck (M.getD i ([],[],[])).2.2 vs++K))
def LD {id:Nat} (T:kG) (R:Rs) (M:Mv) (VP:List ((Nat→Value)→Prop)) (ck:List ((Nat→Value)→aM)) (m:Nat) (first last:List Nat) (pq:Nat.beq ops.size m=true) (hm:P.follows .mixedOrders=true) (hT:FY n ops T=true) (hR:XK T R m=true) (hM:M.ok T R m=true)
 (pe:((List.range R.length).filter fun r=>(R.prod r).isNone)=first) (Lv:((List.range R.length).filter fun r=>(R.cons r).isNone)=last)
 (h0:SS U w0 w.drew (LC T R ck first fun _=>undef)) (gX:jZ (_p P n ops Q T L R M VP ck U w0) m)
 (jJ: ∀vs w',(∀j,Nat.blt j m=true→(VP.getD j fun _=>True) (mask (own T j) vs))→SS U w0 w' (LC T R ck last vs)→WO P n ops [] (cI ops T L vs m) Q w'):W P n L (.region id ops true) Q w:=by
 subst pe
 subst Lv
 refine _l T R VP (fun r=>ck.getD r fun _=>aM.emp) m (dh pq) hm hT hR h0 ?_ jJ
 have iF: ∀i,i<m→ObR P n ops Q T L R VP (fun r=>ck.getD r fun _=>aM.emp) U w0 i:=by
  intro i hi vs wi K hj hS
  have h:=dE.1 hM i (List.mem_range.2 hi)
  simp only [da,beq_iff_eq] at h
  obtain ⟨⟨h1,h2⟩,h3⟩:=h
  have ho:=gX.get hi vs wi K hj (by
   unfold LC
   rw [← h1,← h3,cT,cH]
   exact hS)
  refine ho.mono ?_
  rw [← h2,← h3]
  rintro v Cz ⟨hv,hs⟩
  rw [uJ] at hv hs
  exact ⟨hv,hs⟩
 have: ∀k,k≤m→jZ (ObR P n ops Q T L R VP (fun r=>ck.getD r fun _=>aM.emp) U w0) k:=by
  intro k
  induction k with
  |zero=>exact fun _=>trivial
  |succ k ih=>exact fun hk=>⟨ih (by omega),iF k (by omega)⟩
 exact qqv
def Ct (P:Program) (f:FuncId) (args:Array Value) (jx:World→Prop) (C:List aM) (R:Value→List aM→Prop):Prop:=
 ∀U w,jx w→SS U w w C→Calls P f args w fun e w'=> ∃v,e=.returned v∧ ∃C',R v C'∧SS U w w' C'
def Ct.at {f:FuncId} {args:Array Value} {jx:World→Prop} {C K:List aM} {R:Value→List aM→Prop} (h:Ct P f args jx C R) (hp:jx w) (hS:SS U w0 w (C++K)):Calls P f args w fun e w'=> ∃v,e=.returned v∧ ∃C',R v C'∧SS U w0 w' (C'++K):=by
 obtain ⟨F,hF,hk⟩:=hS.frame
 exact (h F w hp hF).mono fun _ w' ⟨v,he,C',hR,hs⟩=>⟨v,he,C',hR,hk w' _ hs⟩
def CI {i:Nat} {f:FuncId} {jx:World→Prop} {C K:List aM} {R:Value→List aM→Prop} {Post:Value→World→Prop} (x:Op×TypeId) (args:Array Value) (hx:ef ops L i=some x) (hr:bc P (ex L x)=some (.enter f args))
 (hc:Ct P f args jx C R) (hp:jx w) (hS:SS U w0 w (C++K)) (h: ∀v C' w',R v C'→SS U w0 w' (C'++K)→Post v w'):One P n ops Q i L w Post:=
 zV hx hr (hc.at hp hS) fun _ w' ⟨v,he,C',hR,hs⟩=>⟨v,he,h v C' w' hR hs⟩
def _q {f:FuncId} {fn:Func} {c:Code} {args:List Value} {jx:World→Prop} {C:List aM} {R:Value→List aM→Prop} (hf:P.funcs[f]? =some fn) (hb:fn.body=some c) (hn:Nat.ble args.length fn.ntmps=true)
 (h: ∀U w,jx w→SS U w w C→W P fn.ntmps (l6 0 args) c (bodyPost P fn fun e w'=> ∃v,e=.returned v∧ ∃C',R v C'∧SS U w w' C') w):Ct P f args.toArray jx C R:=
 fun U w hp hS=>uK hf hb hn (h U w hp hS)
def SS.no {H:List aM} (h:SS No w0 w H):SS U w0 w H:=⟨h.ch.no,h.own.elim fun F x=>⟨F,x.1,fun b hb=>⟨(x.2 b hb).1,.inr ((x.2 b hb).2.resolve_left id)⟩⟩⟩
def U8 {f:FuncId} {fn:Func} {c:Code} {args:List Value} {jx:World→Prop} {R:Value→List aM→Prop} (hf:P.funcs[f]? =some fn) (hb:fn.body=some c) (hn:Nat.ble args.length fn.ntmps=true)
 (h: ∀w,jx w→W P fn.ntmps (l6 0 args) c (bodyPost P fn fun e w'=> ∃v,e=.returned v∧ ∃C',R v C'∧SS No w w' C') w):Ct P f args.toArray jx [] R:=
 fun _ w hp _=>(uK hf hb hn (h w hp)).mono fun _ _ ⟨v,he,C',hR,hs⟩=>⟨v,he,C',hR,hs.no⟩
def g9 (φ:List aM→Prop):aM:=aM.ex fun Cs=>aM.star (aM.fact (φ Cs)) (aM.all Cs)
def SS.rE {φ:List aM→Prop} {C K:List aM} (h:SS U w0 w (C++K)) (OG:φ C):SS U w0 w (g9 φ::K):=SS.ex_ C (SS.RD (SS.EP h.tz OG))
def SS.g9 {φ:List aM→Prop} {K:List aM} (h:SS U w0 w (g9 φ::K)): ∃C,φ C∧SS U w0 w (C++K):=by
 obtain ⟨C,h⟩:=h.ex
 obtain ⟨OG,h⟩:=h.star.fact
 exact ⟨C,OG,h.all⟩
def SS.Zs {H:List aM} {i g m sz:Nat} {e:TypeId} {cs:List Value} (h:SS U w0 w H) (hi:H[i]? =some (bJ g e cs)) (hl:cs.length=m*sz) (hm:m≤maxLen):SS U w0 w (H.set i (row e sz (.slice (some ⟨g,0,none⟩) m m) m cs)):=by
 obtain ⟨F,h1,h2⟩:=h.J7 hi
 refine h2 w _ ⟨Ch.refl _ _,fun c hc=>?_,fun c hc b hb=>?_,List.pairwise_singleton _ _⟩
 ·rw [fv.1 hc]
  exact Row.TS (h1.all _ cE) hl hm
 ·rw [fv.1 hc] at hb
  have vj:g=b:=by simpa [Row,Value.ownBlock] using hb
  exact h1.nC _ cE b vj.symm
def Rc (A:OA) (cs:List Value) (w:World):Prop:= ∀j v,cs[j]? =some v→ ∃a,A=some a∧w.cell? (a.add j)=some v
def Rc.aE {A:OA} {cs:List Value} {w w':World} (h:Rc A cs w) (hc:Ch No w w'):Rc A cs w':=fun j v hj=>by
 obtain ⟨a,e,ha⟩:=h j v hj
 exact ⟨a,e,hc.cell ha id⟩
def Rc.at {a:Addr} {cs:List Value} {w:World} (h:Rc (some a) cs w) {j:Nat} {v:Value} (hj:cs[j]? =some v):w.cell? (a.add j)=some v:=by
 obtain ⟨a',e,ha⟩:=h j v hj
 cases e
 exact ha
def Rc.addr {A:OA} {cs:List Value} {w:World} (h:Rc A cs w) (hl:0<cs.length): ∃a,A=some a:=by
 obtain ⟨a,e,_⟩:=h 0 cs[0] (dw hl)
 exact ⟨a,e⟩
def Rc.nil (A:OA) (w:World):Rc A [] w:=fun j v h=>by simp at h
def Row.rc {e:TypeId} {sz m c:Nat} {A:OA} {cs:List Value} {w:World} (h:(Row e sz (.slice A m c) m cs).P w):Rc A cs w:=fun j v hj=>by
 have hl:j<cs.length:=(aN.1 hj).1
 have hm:0<m:=by
  rcases Nat.eq_zero_or_pos m with h0|h0
  ·have:=h.1;rw [h0] at this;omega
  ·exact h0
 obtain ⟨g,e,hg⟩:=Row.form h hm
 exact ⟨_,e,by rw [Addr.add_lit,Nat.zero_add];exact hg j v hj⟩
def Rc.drop {a:Addr} {cs:List Value} {w:World} (h:Rc (some a) cs w) (k:Nat):Rc (some (a.add k)) (cs.drop k) w:=fun j v hj=>by
 rw [List.getElem?_drop] at hj
 exact ⟨_,rfl,by rw [Addr.add_add];exact h.at hj⟩
def Rc.take {A:OA} {cs:List Value} {w:World} (h:Rc A cs w) (k:Nat):Rc A (cs.take k) w:=fun j v hj=>by
 rw [List.getElem?_take] at hj
 split at hj
 ·exact h j v hj
 ·cases hj
def Rc.load {t:TypeId} {a:Addr} {cs:List Value} {w:World} {v:Value} {j:Nat} (h:Rc (some a) cs w) (ht:bc P (isAgg t)=some false) (hj:cs[j]? =some v):(loadVar t (a.add j)).run P w=.ok v w:=wy ht (h.at hj)
def Rc.ZR {t:TypeId} {a:Addr} {cs sub:List Value} {w:World} {o:Nat} (h:Rc (some a) cs w) (ht:bc P (isAgg t)=some true) (hs:bc P (sizeOf t)=some sub.length) (Uf:(cs.drop o).take sub.length=sub):(loadVar t (a.add o)).run P w=.ok (.agg sub.toArray) w:=by
 refine wz ht hs fun j v hj=>?_
 rw [Addr.add_add]
 refine h.at ?_
 exact qi9
end
section
variable {P:Program} {n:Nat} {ops:Array Oper} {Q:Exit→Act→World→Prop} {w:World} {L:Env}
def VR (P:Program) (go:TypeId→Value→Value→Option Bool) (xs ys:Array Value):List Field→Option Bool
 | []=>some true
 |f::fs=>
  bif f.name != "_" then
   match bc P (part f.type xs f.offset),bc P (part f.type ys f.offset) with
   |some a,some b=>match go f.type a b,VR P go xs ys fs with
    |some r,some s=>some (r&&s)
    |_,_=>none
   |_,_=>none
  else VR P go xs ys fs
def IS (P:Program):Nat→TypeId→Value→Value→Option Bool
 |0,_,_,_=>none
 |d+1,t,x,y=>
  match x,y with
  |.agg xs,.agg ys=>match P.underlying t with
   |some (.struct fs)=>bif P.stoodInHeld t then none else VR P (IS P d) xs ys fs.toList
   |_=>none
  |x,y=>bc P (Op.equalIn (d+1) t x y)
def za {d:Nat} {xs ys:Array Value} (h: ∀t x y r,IS P d t x y=some r→ ∀w,(Op.equalIn d t x y).run P w=.ok r w): ∀ {fs:List Field} {r:Bool},VR P (IS P d) xs ys fs=some r→ ∀w,(Op.eqFields d xs ys fs).run P w=.ok r w
 | [],r,hr,w=>by simp only [VR,a9] at hr;subst hr;rfl
 |f::fs,r,hr,w=>by
  simp only [VR] at hr
  simp only [Op.eqFields]
  cases hn:(f.name != "_") with
  |false=>
   rw [hn] at hr
   have: ¬f.name≠ "_" :=by simpa using hn
   rw [if_neg this]
   exact za h hr w
  |true=>
   rw [hn] at hr
   have:f.name≠ "_" :=by simpa using hn
   rw [if_pos this]
   simp only [cond_true] at hr
   cases ha:bc P (part f.type xs f.offset) with
   |none=>rw [ha] at hr;cases hr
   |some a=>
    cases hb:bc P (part f.type ys f.offset) with
    |none=>rw [ha,hb] at hr;cases hr
    |some b=>
     rw [ha,hb] at hr
     simp only at hr
     cases hg:IS P d f.type a b with
     |none=>rw [hg] at hr;cases hr
     |some q=>
      cases hs:VR P (IS P d) xs ys fs with
      |none=>rw [hg,hs] at hr;cases hr
      |some s=>
       rw [hg,hs] at hr
       simp only [a9] at hr
       subst hr
       simp only [Sem.run_bind,eO ha w,eO hb w,h _ _ _ _ hg w,Result.andThen_ok]
       cases q with
       |false=>simp
       |true=>simpa using za h hs w
def FK: ∀ {d:Nat} {t:TypeId} {x y:Value} {r:Bool},IS P d t x y=some r→ ∀w,(Op.equalIn d t x y).run P w=.ok r w:=by
 intro d
 induction d with
 |zero=>intro t x y r h;simp [IS] at h
 |succ d ih=>
  intro t x y r h w
  unfold IS at h
  split at h
  ·rename_i xs ys
   cases hu:P.underlying t with
   |none=>rw [hu] at h;cases h
   |some u=>
    rw [hu] at h
    cases u with
    |struct fs=>
     simp only at h
     cases hs:P.stoodInHeld t with
     |true=>rw [hs] at h;cases h
     |false=>
      rw [hs] at h
      simp only [cond_false] at h
      have hf:P.fieldsOf t=fs:=by simp [Program.fieldsOf,hu]
      rw [run_equalIn_agg _ _ _ _ _ (by rw [hu,hf]) hs,hf]
      exact za (fun t x y r h w=>ih h w) h w
    |_=>cases h
  ·exact eO h w
def E8 {i:Nat} {t t2 ty:TypeId} {x y:Operand} {xs ys:Array Value} {r:Bool} {Post:Value→World→Prop} (hx:ef ops L i=some (.binOp .eql t x y t2,ty)) (ha:L.ev x=.agg xs) (hb:L.ev y=.agg ys)
 (hg:P.eqGuardType P.depth t=false) (he:IS P 10000 t (.agg xs) (.agg ys)=some r) (hp:Post (.bool r) w):One P n ops Q i L w Post:=
 cY hx (by simp only [ex,execOp,ha,hb];simp [run_eqGuard_agg _ _ _ _ _ _ _ hg,run_eql_struct,FK he]) hp
def E9 {i:Nat} {t t2 ty:TypeId} {x y:Operand} {xs ys:Array Value} {r:Bool} {Post:Value→World→Prop} (hx:ef ops L i=some (.binOp .neq t x y t2,ty)) (ha:L.ev x=.agg xs) (hb:L.ev y=.agg ys)
 (hg:P.eqGuardType P.depth t=false) (he:IS P 10000 t (.agg xs) (.agg ys)=some r) (hp:Post (.bool (!r)) w):One P n ops Q i L w Post:=
 cY hx (by simp only [ex,execOp,ha,hb];simp [run_eqGuard_agg _ _ _ _ _ _ _ hg,run_neq_struct,FK he]) hp
end
section
variable {P:Program} {n:Nat} {ops:Array Oper} {Q:Exit→Act→World→Prop} {w:World} {L:Env} {U:Nat→Prop} {w0:World}
def vl (V:List Value):Nat→Value:=fun i=>V.getD i undef
def at_ (CK:List aM) (l:List Nat):List aM:=l.map fun r=>CK.getD r aM.emp
def ObC (P:Program) (n:Nat) (ops:Array Oper) (Q:Exit→Act→World→Prop) (T:kG) (L:Env) (M:Mv) (V:List Value) (CK:List aM) (U:Nat→Prop) (w0:World) (i:Nat):Prop:=
 ∀wi K,SS U w0 wi (at_ CK ((M.getD i ([],[],[])).1++(M.getD i ([],[],[])).2.2)++K)→
  One P n ops Q i (cI ops T L (vl V) i) wi fun v Cz=>v=vl V i∧SS U w0 Cz (at_ CK (M.getD i ([],[],[])).2.1++(at_ CK (M.getD i ([],[],[])).2.2++K))
def zU (p:Nat→Prop):List Nat→Prop
 | []=>True
 |i::l=>p i∧zU p l
def zU.get {p:Nat→Prop}: ∀ {l:List Nat} {i:Nat},zU p l→i∈l→p i
 |j::l,i,h,hi=>by
  rcases dx.1 hi with rfl|hi
  ·exact h.1
  ·exact h.2.get hi
def QH (M:Mv) (PL:List Nat):Bool:=PL.all fun i=>(M.getD i ([],[],[])).1.isEmpty&&(M.getD i ([],[],[])).2.1.isEmpty
def S7 {id:Nat} (T:kG) (R:Rs) (M:Mv) (V:List Value) (CK:List aM) (m:Nat) (first last PL OL:List Nat) (hm:P.follows .mixedOrders=true)
 (iF:(Nat.beq ops.size m&&FY n ops T&&XK T R m&&M.ok T R m&&(((List.range R.length).filter fun r=>(R.prod r).isNone)==first)&&(((List.range R.length).filter fun r=>(R.cons r).isNone)==last)&&Nat.beq CK.length R.length&&((List.range m).all fun i=>has PL i||has OL i)&&QH M PL)=true)
 (PR:List Value) (hPR:(PL.map fun i=>pd P ops (cI ops T L (vl V) i) i)=PR.map some) (hV:PR=PL.map (vl V))
 (h0:SS U w0 w.drew (at_ CK first)) (gX:zU (ObC P n ops Q T L M V CK U w0) OL) (jJ: ∀w',SS U w0 w' (at_ CK last)→WO P n ops [] (cI ops T L (vl V) m) Q w'):W P n L (.region id ops true) Q w:=by
 have hP:(PL.map fun i=>pd P ops (cI ops T L (vl V) i) i)=PL.map fun i=>some (vl V i):=by rw [hPR,hV,List.map_map];rfl
 simp only [da] at iF
 obtain ⟨⟨⟨⟨⟨⟨⟨⟨h1,h2⟩,h3⟩,h4⟩,h5⟩,h6⟩,h7⟩,h8⟩,h9⟩:=iF
 have _0: ∀(l:List Nat) (vs:Nat→Value),LC T R (CK.map fun A=>fun _=>A) l vs=at_ CK l:=by
  intro l vs
  unfold LC at_
  refine List.map_congr_left fun r _=>?_
  unfold NL
  have: ∀f,(CK.map fun A=>fun (_:Nat→Value)=>A).getD r (fun _=>aM.emp) f=CK.getD r aM.emp:=by
   intro f
   rw [bA,bA,fk]
   cases CK[r]? <;>rfl
  cases R.prod r<;>exact this _
 have _1: ∀j,j<m→ ∀f:Nat→Value,(((List.range m).map fun i=>fun vs:Nat→Value=>vs i=vl V i).getD j fun _=>True) f↔f j=vl V j:=by
  exact qnp
 have mO: ∀j vs,mask (own T j) vs j=vs j:=by
  exact qlo
 have pP: ∀i (vs:Nat→Value),(∀j,has (T.j7 i) j=true→vs j=vl V j)→cI ops T L vs i=cI ops T L (vl V) i:=by
  intro i vs h
  unfold cI
  congr 1
  have hc: ∀l:List Nat,(∀j∈l,vs j=vl V j)→(l.filterMap fun j=>(eN ops j).map fun d=>(d,vs j))=l.filterMap fun j=>(eN ops j).map fun d=>(d,vl V j):=by
   exact qgl
  exact qrc
 have l8: ∀i,i<m→ ∀j,has (T.j7 i) j=true→j<m:=by
  intro i hi j hj
  have hb:=dh h1
  simp only [FY,da,dE,List.mem_range] at h2
  have h:=h2.1.1 i (by omega)
  cases ho:ops[i]?with
  |none=>rw [ho] at h;cases h
  |some o=>
   rw [ho] at h
   simp only [da,dE,List.any_eq_true] at h
   have VU: ∀i,i<m→ ∀j,j∈T.j7 i→j<i:=by
    intro i
    induction i using Nat.strongRecOn with
    |_ i ih=>
     intro hi j hj
     have h:=h2.1.1 i (by omega)
     exact qce
   have:=VU i hi j (dq.1 hj)
   omega
 refine LD T R M ((List.range m).map fun i=>fun vs=>vs i=vl V i) (CK.map fun A=>fun _=>A) m first last h1 hm h2 h3 h4 (by simpa using h5) (by simpa using h6) (by rw [_0];exact h0) ?_ ?_
 ·have zT: ∀i,i<m→_p P n ops Q T L R M ((List.range m).map fun i=>fun vs=>vs i=vl V i) (CK.map fun A=>fun _=>A) U w0 i:=by
   intro i hi vs wi K hj hS
   have hv: ∀j,has (T.j7 i) j=true→vs j=vl V j:=fun j pQ=>by
    have:=(_1 j (l8 i hi j pQ) _).1 (hj j pQ)
    rwa [mO] at this
   rw [pP i vs hv]
   rw [_0] at hS
   have SB: ∀v Cz,(v=vl V i∧SS U w0 Cz (at_ CK (M.getD i ([],[],[])).2.1++(at_ CK (M.getD i ([],[],[])).2.2++K)))→((((List.range m).map fun i=>fun vs:Nat→Value=>vs i=vl V i).getD i fun _=>True) (mask (own T i) (ik vs i v))∧SS U w0 Cz (LC T R (CK.map fun A=>fun _=>A) (M.getD i ([],[],[])).2.1 (ik vs i v)++(LC T R (CK.map fun A=>fun _=>A) (M.getD i ([],[],[])).2.2 vs++K))):=by
    rintro v Cz ⟨hv,hs⟩
    refine ⟨(_1 i hi _).2 ?_,by rw [_0,_0];exact hs⟩
    rw [mO,uJ]
    simpa [DI] using hv
   have _2:=dE.1 h8 i (List.mem_range.2 hi)
   simp only [Bool.or_eq_true] at _2
   rcases _2 with hc|hc
   ·have hm:=dq.1 hc
    have hp:pd P ops (cI ops T L (vl V) i) i=some (vl V i):=by
     have:=List.map_inj_left.1 hP i hm
     exact this
    have ji:=dE.1 h9 i hm
    simp only [da,List.isEmpty_iff] at ji
    refine One.mono (tw (Post:=fun v Cz=>v=vl V i∧SS U w0 Cz (at_ CK (M.getD i ([],[],[])).2.1++(at_ CK (M.getD i ([],[],[])).2.2++K))) hp ⟨rfl,?_⟩) SB
    rw [ji.2]
    rw [ji.1] at hS
    exact hS
   ·exact One.mono (gX.get (dq.1 hc) wi K hS) SB
  have: ∀k,k≤m→jZ (_p P n ops Q T L R M ((List.range m).map fun i=>fun vs=>vs i=vl V i) (CK.map fun A=>fun _=>A) U w0) k:=by
   exact qid
  exact qqv
 ·intro vs w' hj hS
  rw [_0] at hS
  have hb:=dh h1
  have he:cI ops T L vs m=cI ops T L (vl V) m:=pP m vs fun j pQ=>by
   simp only [FY,da,dE] at h2
   have hjm:Nat.blt j ops.size=true:=h2.2 j (by rw [hb];exact dq.1 pQ)
   have ahs:j<m:=by have:=dF hjm;omega
   have:=(_1 j ahs _).1 (hj j (by rw [← hb];exact hjm))
   rwa [mO] at this
  rw [he]
  exact jJ w' hS
def ze {i:Nat} {t ty:TypeId} {x y:Operand} {s:ByteArray} {k:IntKind} {j:Int} {b:UInt8} {Post:Value→World→Prop} (hx:ef ops L i=some (.index t x y,ty)) (ha:L.ev x=.string s) (hy:L.ev y=.int k j)
 (ht:bc P (underlying t)=some .string) (h0:0≤j) (hb:s[j.toNat]? =some b) (hp:Post (.int .u8 (b.toNat:Int)) w):One P n ops Q i L w Post:=
 cY hx (by simp [ex,execOp,ha,hy,Instr.index,asIntOf,pure_run ht,h0,hb]) hp
end
