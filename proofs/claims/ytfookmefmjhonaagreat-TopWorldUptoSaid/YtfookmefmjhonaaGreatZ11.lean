/- For the law of worlds: The engine. -/
import Derived.Test.YtfookmefmjhonaaGreatZ10
set_option linter.all false
namespace Go.bE
open Go.RowKit
section
variable {P:Program} {n:Nat} {U:Nat→Prop} {w0 w:World} {Q:Exit→Act→World→Prop} {s:S} {ez:Ez} {hs:List Nat} {i:Nat}
def bn {φ:List aM→Prop} (j:Nat) (k: ∀Cs,φ Cs→G P n U w0 Q {s with H:=gv s.H [j] (Cs.map .k)}) (h:(dR s.H.length [j],pk s.H [j])=(true,[g9 φ]):=by kernel_rfl):G P n U w0 Q s:=by
 simp only [bI] at h
 obtain ⟨h1,h2⟩:=h
 refine ⟨fun w hS a ha=>?_⟩
 have h3:=SH.fS h1 hS
 rw [h2] at h3
 obtain ⟨C,OG,h4⟩:=SS.g9 h3
 exact (k C OG).go w (SH.lr (tk:= [j]) (by rw [Er];exact h4)) a ha
def aJ (φ:List aM→Prop) (ids:List Nat) (Cs:List aM) (OG:φ Cs) (k:G P n U w0 Q {s with H:=gv s.H ids [.k (g9 φ)]}) (h:(dR s.H.length ids,pk s.H ids)=(true,Cs):=by kernel_rfl):G P n U w0 Q s:=
 js ids Cs [.k (g9 φ)] h (fun w K hS=>SS.rE hS OG) k
def ahA {α:Type} (K:Kd α) (g:Nat) (A:OA) (c:Nat) (xs:List α) (w:World):Prop:=
 ∃o cur,A=some ⟨g,o*K.sz,none⟩∧w.heap[g]? =some (.cells cur K.e (0,0))∧xs.length≤c∧c≤maxLen∧(o+c)*K.sz≤cur.size∧(cur.toList.drop (o*K.sz)).take (xs.length*K.sz)=xs.flatMap K.f
def Kd.fH {α:Type} (K:Kd α) (A:OA) (c:Nat) (xs:List α):aM:=
 ⟨fun F w=>(A=none∧c=0∧xs= []∧ ∀b,¬F b)∨ ∃g,(∀b,F b↔b=g)∧ahA K g A c xs w,fun F w w' h hp=>by
  rcases hp with hp|⟨g,h1,o,cur,h2,h3,h4⟩
  ·exact .inl hp
  ·exact .inr ⟨g,h1,o,cur,h2,(h g ((h1 g).2 rfl)).trans h3,h4⟩⟩
variable {α:Type} {K:Kd α} {A:OA} {c:Nat} {xs:List α}
def zp {F:Nat→Prop} (h:(K.fH A c xs).H F w):K.gx A xs (fun b=> ¬F b) w:=by
 rcases h with ⟨_,_,rfl,_⟩|⟨g,h1,o,cur,rfl,h3,h4,h5,h6,h7⟩
 ·exact ra.nil _ _ _
 ·intro j v hj
  refine ⟨_,rfl,?_,?_⟩
  ·rw [Addr.add_lit]
   have hl:j<xs.length*K.sz:=by have:=(aN.1 hj).1;rw [K.size] at this;exact this
   rw [← h7,List.getElem?_take,if_pos hl,List.getElem?_drop] at hj
   rw [Array.getElem?_toList] at hj
   simp [World.cell?,h3,hj]
  ·intro hn
   exact hn ((h1 _).2 rfl)
def MR {F:Nat→Prop} (h:(K.fH A c xs).H F w):xs.length≤c:=by
 rcases h with ⟨_,_,rfl,_⟩|⟨g,h1,o,cur,rfl,h3,h4,_⟩
 ·simp
 ·exact h4
def uB:(K.row A c xs).le (K.fH A c xs):=fun F w ⟨h1,h2⟩=>by
 obtain ⟨h3,⟨h4,h5⟩|⟨g,cap,cur,h4,_,h6,h7,h8,h9,iJ⟩⟩:=h2
 ·injection h4 with h4 _ h6
  subst h4
  subst h6
  refine .inl ⟨rfl,rfl,dV.1 h5,fun b hb=>?_⟩
  have:=(h1 b).1 hb
  cases this
 ·injection h4 with h4 _ kx
  subst h4
  subst kx
  refine .inr ⟨g,fun b=>?_,0,cur,by simp,h6,h7,h8,by rw [Nat.zero_add,h9];exact bO _,by simpa using iJ⟩
  rw [h1]
  show some g=some b↔b=g
  rw [a9]
  exact eq_comm
def w8 {l:Nat} (hl:l≤c):(K.fH A c xs).le (K.fH (dS A c l K.sz) (c-l) (xs.drop l)):=fun F w h=>by
 rcases h with ⟨rfl,rfl,rfl,h1⟩|⟨g,h1,o,cur,rfl,h3,h4,h5,h6,h7⟩
 ·refine .inl ⟨?_,by simp,by simp,h1⟩
  unfold dS;split<;>rfl
 ·by_cases e:c=l
  ·refine .inr ⟨g,h1,o,cur,by unfold dS;rw [if_pos e],h3,by rw [cL];omega,by unfold maxLen at*;omega,?_,?_⟩
   ·exact eF (dC _ (by omega)) h6
   ·rw [eJ (by omega)];simp
  ·have hle:(o+l)*K.sz+(c-l)*K.sz=(o+c)*K.sz:=by rw [← Nat.add_mul];congr 1;omega
   refine .inr ⟨g,h1,o+l,cur,?_,h3,by rw [cL];omega,by unfold maxLen at*;omega,?_,?_⟩
   ·unfold dS
    rw [if_neg e,Option.map_some,Addr.add_lit,Nat.add_mul]
   ·rw [show o+l+(c-l)=o+c by omega];exact h6
   ·have e1:(xs.drop l).flatMap K.f=(xs.flatMap K.f).drop (l*K.sz):=by
     rcases Nat.lt_or_ge l xs.length with h8|h8
     ·obtain ⟨h9,iJ⟩:=K.part (xs:=xs) (dw h8)
      rw [h9,List.drop_left' iJ,fI h8,iE]
     ·rw [eJ h8,eJ (by rw [K.size];exact dC _ h8)]
      rfl
    rw [e1,← h7,List.drop_take,List.drop_drop,cL,Nat.add_mul,← Nat.sub_mul]
def MS {t t2 ty e:TypeId} {i:TypeInfo} {z y:Value} (ht:P.underlying t=some (.slice e)) (hi:P.info? e=some i) {m c k g o:Nat} {news:List Value} {B:OA} {c2:Nat} (hy:y=.slice B k c2) (zG:t2=t) (hr:Rc B news w) (hl:news.length=k*i.size) (kc:m+k≤c)
 {cur:Array Value} {te:TypeId} (hg:w.heap[g]? =some (.cells cur te (0,0))) (hc:o+m*i.size+news.length≤cur.size) (h1: ∀v∈news,v.oneCell'=true):
 (Builtin.append_ #[t,t2] ty #[.slice (some ⟨g,o,none⟩) m c,y]).run P w=.ok (.slice (some ⟨g,o,none⟩) (m+k) c) (w.setRow g (cur.toList.take (o+m*i.size)++news++cur.toList.drop (o+m*i.size+news.length)).toArray):=by
 subst hy
 subst zG
 have ji:=run_storeCells_at P g (o+m*i.size) te news 0 cur w hg qse h1
 simp only [Nat.add_zero] at ji
 have ha:(⟨g,o,none⟩:Addr).add (m*i.size)=⟨g,o+m*i.size,none⟩:=Addr.add_lit _ _ _
 have hf:=oI (P:=P) (size:=i.size) (k:=k) (c:=c2) hl hr
 exact qj7
def MT {ys:List α} {B:OA} {c2 i' i:Nat} {H:List aM} {z:Op×TypeId} {L:Env} {ops:Array Oper} (hx:ef ops L i=some z) (h:uy P L z=some (K.e,.slice A xs.length c,.slice B ys.length c2)) (mL:fK P K.e K.sz=true)
 (hS:SS U w0 w H) (hi:H[i']? =some (K.fH A c xs)) (hn:K.Rd B ys w) (hb:xs.length+ys.length≤1073741824) (h0:0<ys.length) {Post:Value→World→Prop} (hp: ∀A' c' w',SS U w0 w' (H.set i' (K.fH A' c' (xs++ys)))→Post (.slice A' (xs++ys).length c') w'):One P n ops Q i L w Post:=by
 obtain ⟨inf,zv,ri,pI,vi,Jh,Ip⟩:=gE mL
 unfold uy at h
 split at h
 ·rename_i args ts ty
  split at h
  ·rename_i x y t t2 e1 e2
   have e1:=kq e1
   have e2:=kq e2
   subst e1
   subst e2
   cases vy:Nat.beq t2 t with
   |false=>rw [vy] at h;cases h
   |true=>
    rw [vy,cond_true] at h
    have zG:=dh vy
    split at h
    ·rename_i e hu
     simp only [a9,bI] at h
     obtain ⟨rfl,ha,hy⟩:=h
     have aad:=iG hi
     have Qd:=hS.perm aad
     obtain ⟨F,hF,l8,hk⟩:=Qd.one
     have aae: ∀w' B',SS U w0 w' (B'::H.eraseIdx i')→SS U w0 w' (H.set i' B'):=fun w' B' h=>h.perm (p' hi)
     rw [bm] at hp
     rcases Nat.lt_or_ge c (xs.length+ys.length) with hf|hf
     ·have uo:=uH (P:=P) (w:=w) (t2:=t2) (ty:=ty) hu ri pI (A:=A) (m:=xs.length) (c:=c) (olds:=xs.flatMap K.f) (by rw [zG];exact Src.sl hn:Src P t zv t2 (.slice B ys.length c2) ys.length (ys.flatMap K.f) w) qrq qrq (zp hF).rc (eF (Nat.mul_le_mul hb Jh) (by decide)) (by omega) (fun x e=>by cases e) hf
      have vP:=grownCap_ge w (xs.length+ys.length) c K.e
      have hcm:=grownCap_le_maxLen w (xs.length+ys.length) c K.e qo1
      refine cY hx (v:=.slice (some ⟨w.heap.size,0,none⟩) (xs.length+ys.length) (grownCap w (xs.length+ys.length) c K.e)) (w':=w.drew.alloc (.cells ((xs.flatMap K.f).toArray++(ys.flatMap K.f).toArray++Builtin.zeroCells zv.cells (grownCap w (xs.length+ys.length) c K.e- (xs.length+ys.length))) K.e)) ?_ (hp _ _ _ (aae _ _ ?_))
      ·exact qg7
      ·refine hk _ (fun b=>b=w.heap.size) _ ((Ch.drew No w).trans (Ch.alloc _ _) fun _ _ x=>x).no (.inr ⟨w.heap.size,fun b=>Iff.rfl,0,(xs.flatMap K.f).toArray++(ys.flatMap K.f).toArray++Builtin.zeroCells zv.cells (grownCap w (xs.length+ys.length) c K.e- (xs.length+ys.length)),by simp,?_,by rw [bm];exact vP,hcm,?_,?_⟩) fun b hb=>.inr ?_
       ·exact qe1
       ·have U1:(Builtin.zeroCells zv.cells (grownCap w (xs.length+ys.length) c K.e- (xs.length+ys.length))).size=(grownCap w (xs.length+ys.length) c K.e- (xs.length+ys.length))*K.sz:=by simp [Builtin.zeroCells,Ip]
        have U2:(xs.length+ys.length)*K.sz+(grownCap w (xs.length+ys.length) c K.e- (xs.length+ys.length))*K.sz=grownCap w (xs.length+ys.length) c K.e*K.sz:=by rw [← Nat.add_mul];congr 1;omega
        simp only [Array.size_append,List.size_toArray,K.size,U1]
        rw [Nat.zero_add,← U2,Nat.add_mul]
        exact bO _
       ·have e:((xs.flatMap K.f).toArray++(ys.flatMap K.f).toArray++Builtin.zeroCells zv.cells (grownCap w (xs.length+ys.length) c K.e- (xs.length+ys.length))).toList=(xs++ys).flatMap K.f++(Builtin.zeroCells zv.cells (grownCap w (xs.length+ys.length) c K.e- (xs.length+ys.length))).toList:=by simp
        rw [e,Nat.zero_mul,List.drop_zero,← K.size,List.take_left' rfl]
       ·subst hb;exact ⟨bO _,by simp⟩
     ·rcases hF with ⟨_,rfl,rfl,_⟩|⟨g,h1,o,cur,rfl,h3,h4,h5,h6,h7⟩
      ·rw [fA] at hf;omega
      ·have hlen:(ys.flatMap K.f).length=ys.length*inf.size:=by rw [K.size,vi]
       have hle:o*K.sz+xs.length*K.sz+ys.length*K.sz≤cur.size:=by
        refine eF ?_ h6
        rw [← Nat.add_mul,← Nat.add_mul]
        exact dC _ (by omega)
       have uo:=MS (P:=P) (z:=zv) (ty:=ty) (y:=.slice B ys.length c2) hu ri (m:=xs.length) (c:=c) (g:=g) (o:=o*K.sz) rfl zG hn hlen hf h3 (by rw [hlen,vi];exact hle) (dE.1 (K.vF _))
       rw [vi] at uo
       have Il:cur.toList.length=cur.size:=Array.length_toList
       have hsp:=spliced (cur:=cur.toList) (news:=ys.flatMap K.f) (m:=o*K.sz+xs.length*K.sz) (by rw [Il,K.size];exact hle)
       refine cY hx (v:=.slice (some ⟨g,o*K.sz,none⟩) (xs.length+ys.length) c) (w':=w.setRow g (cur.toList.take (o*K.sz+xs.length*K.sz)++ys.flatMap K.f++cur.toList.drop (o*K.sz+xs.length*K.sz+(ys.flatMap K.f).length)).toArray) ?_ (hp _ _ _ (aae _ _ ?_))
       ·exact qg7
       ·have r5:Ch F w (w.setRow g (cur.toList.take (o*K.sz+xs.length*K.sz)++ys.flatMap K.f++cur.toList.drop (o*K.sz+xs.length*K.sz+(ys.flatMap K.f).length)).toArray):=⟨rfl,rfl,rfl,by simp [World.setRow],fun k hk hn=>setRow_other w g k _ fun e=>hn ((h1 k).2 e),bO _⟩
        refine hk _ F _ r5 (.inr ⟨g,h1,o,_,rfl,setRow_heap w g _ _ _ _ h3,by rw [bm];exact hf,h5,?_,?_⟩) fun b hb=>.inl hb
        ·rw [List.size_toArray,hsp.1,Il];exact h6
        ·rw [bm,Nat.add_mul,List.toList_toArray]
         have e1:(cur.toList.take (o*K.sz+xs.length*K.sz)).length=o*K.sz+xs.length*K.sz:=by rw [b0,Il];omega
         rw [cH,qf (by omega),List.take_add] at*
         have e2:(cur.toList.take (o*K.sz+xs.length*K.sz)).drop (o*K.sz)=xs.flatMap K.f:=by rw [List.drop_take,Nat.add_sub_cancel_left,h7]
         rw [e2,List.flatMap_append,List.take_left' (K.size xs),List.drop_left' (K.size xs),List.take_left' (K.size ys)]
    ·cases h
  ·cases h
 ·cases h
def Vl {α:Type} (K:Kd α) (r:Nat) (A:(Nat→Value)→OA) (c:(Nat→Value)→Nat) (xs:(Nat→Value)→List α) (B:(Nat→Value)→OA) (c2:(Nat→Value)→Nat) (ys:(Nat→Value)→List α) (hn: ∀vs w,SE U w0 w [K.fH (A vs) (c vs) (xs vs)] (s.vA P n ez hs i vs)→K.Rd (B vs) (ys vs) w) (hb: ∀vs,(xs vs).length+(ys vs).length≤1073741824) (h0: ∀vs,0<(ys vs).length) (h: ∀vs,(s.ox P n ez hs i vs (uy P),(s.D P n ez hs vs).jh [r],fK P K.e K.sz)=(some (K.e,.slice (A vs) (xs vs).length (c vs),.slice (B vs) (ys vs).length (c2 vs)),[K.fH (A vs) (c vs) (xs vs)],true):=by intro _;kernel_rfl) (hu: ∀vs u,xs (ik vs i u)=xs vs∧ys (ik vs i u)=ys vs:=by intro _ _;exact ⟨rfl,rfl⟩):ke P n U w0 s ez hs i ⟨[r],fun vs=>.slice (ak (vs i)) (xs vs++ys vs).length (an (vs i)),[fun vs=>.k (K.fH (ak (vs i)) (an (vs i)) (xs vs++ys vs))]⟩:=by
 refine ⟨fun vs Q' w K' hS=>?_⟩
 have hh:=h vs
 simp only [bI] at hh
 obtain ⟨h1,h2,h3⟩:=hh
 obtain ⟨x,hx,h1⟩:=S.dU h1
 simp only at hS
 rw [h2] at hS
 refine MT (i':=0) hx h1 h3 hS rfl (hn vs w ⟨K',hS⟩) (hb vs) (h0 vs) fun A' c' w' hw=>?_
 exact qea
def SH.Zw {α:Type} {K:Kd α} {H:List HB} (h:SH U w0 w H) (i:Nat) (A:OA) (c:Nat) (xs:List α) (hi:(dR H.length [i],pk H [i])=(true,[K.fH A c xs])):K.Rd A xs w:=by
 simp only [bI] at hi
 exact SS.get h (SH.gf hi.1 hi.2) fun _ x=>(zp x).rc
def SH.Zy {α:Type} {K:Kd α} {H:List HB} (h:SH U w0 w H) (i:Nat) (A:OA) (c:Nat) (xs:List α) (hi:(dR H.length [i],pk H [i])=(true,[K.fH A c xs])):xs.length≤c:=by
 simp only [bI] at hi
 exact SS.get h (SH.gf hi.1 hi.2) fun _ x=>MR x
def SE.Zw {α:Type} {K:Kd α} {X Y:List aM} (h:SE U w0 w X Y) (q:Nat) (A:OA) (c:Nat) (xs:List α) (e:Y[q]? =some (K.fH A c xs)):K.Rd A xs w:=h.get e fun _ z=>(zp z).rc
def lY (j:Nat) (A B:aM) (hle:A.le B) (k:G P n U w0 Q {s with H:=gv s.H [j] [.k B]}) (h:(dR s.H.length [j],pk s.H [j])=(true,[A]):=by kernel_rfl):G P n U w0 Q s:=
 js [j] _ [.k B] h (fun w K hS=>hS.J4 hle) k
def S.isL (s:S):Bool:=match s.ks with|.l _::_=>true|_=>false
def CC (k:G P n U w0 Q {s with ks:=s.ks.tail}) (h:s.isL=true:=by kernel_rfl):G P n U w0 Q s:=by
 refine ⟨fun w hS a ha=>?_⟩
 have:=k.go w hS a ha
 obtain ⟨L,H,ks⟩:=s
 cases ks with
 |nil=>cases h
 |cons x ks=>
  cases x with
  |l J=>exact this
  |_=>cases h
end
section
variable {P:Program} {n:Nat} {U:Nat→Prop} {w0 w:World} {Q:Exit→Act→World→Prop} {s:S} {ez:Ez} {hs:List Nat} {i:Nat}
def O' {params rs:Array TypeId} {t e:TypeId} {inf:TypeInfo} {ga gb oa ob la ca lb cb:Nat} {xa xb:Array Value} {ta tb:TypeId} (ht:params[0]? =some t) (hu:P.underlying t=some (.slice e)) (hi:P.info? e=some inf)
 (ha:w.heap[ga]? =some (.cells xa ta (0,0))) (hb:w.heap[gb]? =some (.cells xb tb (0,0))) (rz:ga≠gb):(Extern.SlicesOverlaps.overlaps params rs #[.slice (some ⟨ga,oa,none⟩) la ca,.slice (some ⟨gb,ob,none⟩) lb cb]).run P w=.ok (.bool false) w:=by
 have h1:(ga !=gb)=true:=by simpa using rz
 have h2:(ga==gb)=false:=by simpa using rz
 obtain ⟨params⟩:=params
 cases params with
 |nil=>simp at ht
 |cons t' l=>
 obtain rfl:t'=t:=by simpa using ht
 conv=>lhs;arg 2;whnf
 rw [show∀(k:Program→Sem Value),Sem.run P (Sem.program k) w=Sem.run P (k P) w from fun _=>rfl]
 have pb: ∀ {β γ:Type} (x:β) (f:β→Sem γ),(pure x:Sem β).bind f=f x:=fun _ _=>rfl
 have fa: ∀o,Sem.run P (Sem.frozen ⟨ga,o,none⟩ Sem.pure) w=.ok false w:=fun o=>by simp [Sem.run,World.frozen?,ha]
 have fb: ∀o,Sem.run P (Sem.frozen ⟨gb,o,none⟩ Sem.pure) w=.ok false w:=fun o=>by simp [Sem.run,World.frozen?,hb]
 have sa:Sem.run P (Sem.shape ga Sem.pure) w=.ok (some (ta,xa.size)) w:=by simp [Sem.run,World.shape?,ha]
 have sb:Sem.run P (Sem.shape gb Sem.pure) w=.ok (some (tb,xb.size)) w:=by simp [Sem.run,World.shape?,hb]
 simp [hu,pb,Sem.bind,sizeOf,typeInfo,hi,frozen,noView,viewAt,mayBeOne,stringish,shape,fa,fb,sa,sb,h1,h2,Result.andThen]
def YU (L:Env):Op×TypeId→Option (FuncId×List Value)
 |(.call ⟨.value v,args,_⟩,_)=>match L.ev v with
  |.func (.func f) first cap=>match first.toList,cap.toList with
   | [],[]=>some (f,args.toList.map L.ev)
   |_,_=>none
  |_=>none
 |_=>none
def Kz {e:TypeId} {sz m c k:Nat} {A:OA} {cs:List Value} (hk:m+k≤c):(row e sz (.slice A m c) m cs).le (aM.ex fun gs: {l:List Value//l.length=k*sz}=>row e sz (.slice A (m+k) c) (m+k) (cs++gs.1)):=fun F w ⟨h1,h2⟩=>by
 obtain ⟨h3,⟨h4,h5⟩|⟨g,cap,cur,h4,h5,h6,h7,h8,h9,iJ⟩⟩:=h2
 ·injection h4 with h4 _ h6
  subst h4
  have e1:m=0:=h5
  have e2:k=0:=by omega
  subst e1
  subst e2
  refine ⟨⟨[],by simp⟩,h1,?_⟩
  simpa using ⟨h3,.inl ⟨by rw [h6],rfl⟩⟩
 ·injection h4 with h4 _ kx
  subst h4
  subst kx
  have hle:(m+k)*sz≤cur.size:=by rw [h9];exact dC _ hk
  rw [Nat.add_mul] at hle
  have hl:((cur.toList.drop (m*sz)).take (k*sz)).length=k*sz:=by rw [b0,cL,Array.length_toList];omega
  refine ⟨⟨(cur.toList.drop (m*sz)).take (k*sz),hl⟩,h1,?_,.inr ⟨g,c,cur,rfl,h5,h6,hk,h8,h9,?_⟩⟩
  ·show (cs++(cur.toList.drop (m*sz)).take (k*sz)).length=_
   rw [bm,hl,Nat.add_mul]
   show cs.length+_=_
   rw [show cs.length=m*sz from h3]
  ·show cur.toList.take ((m+k)*sz)=cs++(cur.toList.drop (m*sz)).take (k*sz)
   rw [Nat.add_mul,List.take_add,iJ]
def oz (e sz j:Nat) (A:OA) (c m k:Nat) (cs:List Value) (g: ∀gs:List Value,gs.length=k*sz→G P n U w0 Q {s with H:=gv s.H [j] [.k (row e sz (.slice A (m+k) c) (m+k) (cs++gs))]}) (h:(dR s.H.length [j],pk s.H [j])=(true,[row e sz (.slice A m c) m cs]):=by kernel_rfl) (hk:m+k≤c:=by omega):G P n U w0 Q s:=by
 simp only [bI] at h
 obtain ⟨h1,h2⟩:=h
 refine ⟨fun w hS a ha=>?_⟩
 have h3:=SH.fS h1 hS
 rw [h2] at h3
 obtain ⟨⟨gs,hgs⟩,h4⟩:=SS.ex (SS.J4 h3 (Kz hk))
 exact (g gs hgs).go w (SH.lr (tk:= [j]) h4) a ha
def ql {params rs:Array TypeId} {t e:TypeId} {inf:TypeInfo} {a b:OA} {la ca lb cb:Nat} (ht:params[0]? =some t) (hu:P.underlying t=some (.slice e)) (hi:P.info? e=some inf) (wB:a=none∨b=none):(Extern.SlicesOverlaps.overlaps params rs #[.slice a la ca,.slice b lb cb]).run P w=.ok (.bool false) w:=by
 obtain ⟨params⟩:=params
 cases params with
 |nil=>simp at ht
 |cons t' l=>
 obtain rfl:t'=t:=by simpa using ht
 have pb: ∀ {β γ:Type} (x:β) (f:β→Sem γ),(pure x:Sem β).bind f=f x:=fun _ _=>rfl
 rcases wB with rfl|rfl
 ·conv=>lhs;arg 2;whnf
  exact qc8
 ·cases a with
  |none=>
   conv=>lhs;arg 2;whnf
   exact qc8
  |some a=>
   conv=>lhs;arg 2;whnf
   exact qc8
def Pa {A:OA} {c l sz g:Nat} (h:A=some ⟨g,0,none⟩): ∃o,dS A c l sz=some ⟨g,o,none⟩:=by
 subst h
 unfold dS
 split
 ·exact ⟨0,rfl⟩
 ·refine ⟨l*sz,?_⟩
  rw [Option.map_some,zP]
def EV (f:FuncId) (fn:Func) (t e sz e1 sz1 e2 sz2 i j:Nat) (A B:OA) (c l la ca m cs m2 c2 wL:_) (hf:P.funcs[f]? =some fn) (g:G P n U w0 Q (s.dT (.bool false) s.H)) (h:(s.nx (fun L x=>YU L x),s.vu n,dR s.H.length [i,j],pk s.H [i,j])=(some (f,[.slice B m2 c2,.slice (dS A c l sz) la ca]),true,true,[row e1 sz1 (.slice A m c) m cs,row e2 sz2 (.slice B m2 c2) m2 wL]):=by kernel_rfl) (IF:((fn.name== "runtime.NumGoroutine"),fn.body.isNone,(fn.params[0]?).bind P.underlying,(P.info? e).isSome)=(false,true,some (.slice e),true):=by kernel_rfl) (Cq:Extern.findNext fn=none:=by kernel_rfl) (hfe:Extern.find fn=some (Extern.SlicesOverlaps.overlaps fn.params fn.resultTypes):=by kernel_rfl):G P n U w0 Q s:=by
 simp only [bI] at h IF
 obtain ⟨h1,h2,h3,h4⟩:=h
 obtain ⟨n1,n2,n3,n4⟩:=IF
 obtain ⟨t',n5,n6⟩:=Option.bind_eq_some_iff.1 n3
 obtain ⟨inf,n7⟩:=Option.isSome_iff_exists.1 n4
 obtain ⟨z,hc,h1⟩:=S.fU h1
 refine iS h2 fun w hS ops Q' q hx=>?_
 have uo:(Extern.SlicesOverlaps.overlaps fn.params fn.resultTypes #[.slice B m2 c2,.slice (dS A c l sz) la ca]).run P w=.ok (.bool false) w:=by
  have h5:=SH.fS h3 hS
  rw [h4] at h5
  obtain ⟨F,hF,_⟩:=h5.own
  obtain ⟨F1,F2,_,hd,⟨hA1,hA2⟩,F3,F4,e3,_,⟨hB1,hB2⟩,_⟩:=hF
  obtain ⟨_,⟨q1,_⟩|⟨ga,_,xa,q1,_,q3,_⟩⟩:=hA2
  ·injection q1 with q1
   subst q1
   exact ql n5 n6 n7 (.inr (by unfold dS;split<;>rfl))
  ·injection q1 with q1
   obtain ⟨_,⟨r1,_⟩|⟨gb,_,xb,r1,_,r3,_⟩⟩:=hB2
   ·injection r1 with r1
    subst r1
    exact ql n5 n6 n7 (.inl rfl)
   ·injection r1 with r1
    obtain ⟨o,ho⟩:=Pa (c:=c) (l:=l) (sz:=sz) q1
    rw [ho,r1]
    refine O' n5 n6 n7 r3 q3 fun e=>?_
    refine hd ga ((hA1 ga).2 (by rw [q1];rfl)) ((e3 ga).2 (.inl ((hB1 ga).2 (by rw [r1,e];rfl))))
 have m1: ¬fn.name= "runtime.NumGoroutine" :=by simpa using n1
 have m2':fn.body=none:=by simpa using n2
 unfold YU at h1
 split at h1
 ·rename_i v args ts ty
  split at h1
  ·rename_i f' first cap hv
   split at h1
   ·rename_i e3 e4
    simp only [a9,bI] at h1
    obtain ⟨rfl,ha⟩:=h1
    obtain ⟨x1,x2,jC,Dl,Dm⟩:=E3 ha
    have jC:=kq jC
    subst jC
    obtain ⟨first⟩:=first
    obtain ⟨cap⟩:=cap
    simp only at e3 e4
    subst e3
    subst e4
    refine cY (v:=.bool false) (w':=w) (hx.trans hc) ?_ ⟨_,hS,g⟩
    simp [ex,execOp,resolve,invoke,hv,Deferred.ofValue,callFunc,hf,m1,m2',Cq,hfe,Dl,Dm,uo,mark,Sem.run]
   ·cases h1
  ·cases h1
 ·cases h1
def yp {α:Type} (K:Kd α) (r:Nat) (A:OA) (c m:Nat) (xs ys:List α) (t t2:TypeId) (y:Value) (Dn: ∀vs w,SE U w0 w [K.row A c xs] (s.vA P n ez hs i vs)→vJ P K t t2 y ys w) (kc:m+ys.length≤c) (hb:m+ys.length≤1073741824) (hA:A.isSome=true) (h: ∀vs,(s.ox P n ez hs i vs (Dp P),(s.D P n ez hs vs).jh [r],fK P K.e K.sz)=(some (t,t2,K.e,.slice A m c,y),[K.row A c xs],true):=by intro _;kernel_rfl) (hm:m≤xs.length:=by omega):ke P n U w0 s ez hs i ⟨[r],fun _=>.slice A (m+ys.length) c,[fun _=>.k (K.row A c (xs.take m++ys))]⟩:=by
 refine ⟨fun vs Q' w K' hS=>?_⟩
 have hh:=h vs
 simp only [bI] at hh
 obtain ⟨h1,h2,h3⟩:=hh
 obtain ⟨x,hx,h1⟩:=S.dU h1
 simp only at hS
 rw [h2] at hS
 exact KA K (i':=0) hx h1 h3 hS rfl hm (Dn vs w ⟨K',hS⟩) kc hb hA fun w' hw=>⟨rfl,hw⟩
def SE.YD {Y:List aM} {e sz m c:Nat} {A:OA} {cs:List Value} (h:SE U w0 w [row e sz (.slice A m c) m cs] Y):Rc A cs w:=by
 obtain ⟨K,hS⟩:=h
 exact Row.rc (SS.tP hS (i:=0) rfl)
def Rc.cut {A:OA} {cs:List Value} {c l sz:Nat} (h:Rc A cs w) (hl:cs.length≤c*sz):Rc (dS A c l sz) (cs.drop (l*sz)) w:=by
 unfold dS
 split
 ·rename_i e
  rw [eJ (by rw [← e];exact hl)]
  exact Rc.nil _ _
 ·cases A with
  |none=>
   intro j v hj
   rw [List.getElem?_drop] at hj
   obtain ⟨_,h1,_⟩:=h _ _ hj
   cases h1
  |some a=>exact h.drop _
def mS {P M N R:List Value} (h:M.length=N.length):ba (P++M++R) P.length N=P++N++R:=by
 have h1:(P++M++R).take P.length=P:=by rw [cH,List.take_left' rfl]
 have h2:(P++M++R).drop (P.length+N.length)=R:=by rw [← h,← bm,List.drop_left' rfl]
 unfold ba
 rw [h1,h2]
variable {α:Type} {K:Kd α}
def yk {xs:List α} {x:α} {i l1 k1 d1 k2 d2:Nat} {gs:List Value} (hi:i≤xs.length) (hg:gs.length=1*K.sz) (e1:l1=i+1) (e2:min k1 d1=xs.length-i) (e3:min k2 d2=1):
 ba (ba (xs.flatMap K.f++gs) (l1*K.sz) (((xs.flatMap K.f++gs).drop (i*K.sz)).take (min k1 d1*K.sz))) (i*K.sz) (([x].flatMap K.f).take (min k2 d2*K.sz))=(xs.take i++x::xs.drop i).flatMap K.f:=by
 rw [e2,e3,e1]
 have hP:((xs.take i).flatMap K.f).length=i*K.sz:=by rw [K.size,b0,fD hi]
 have hQ:((xs.drop i).flatMap K.f).length=(xs.length-i)*K.sz:=by rw [K.size,cL]
 have hx:([x].flatMap K.f).length=K.sz:=by rw [K.size];simp
 have rD:xs.flatMap K.f=(xs.take i).flatMap K.f++(xs.drop i).flatMap K.f:=by rw [← List.flatMap_append,List.take_append_drop]
 have e0:(xs.take i++x::xs.drop i).flatMap K.f=(xs.take i).flatMap K.f++(K.f x++(xs.drop i).flatMap K.f):=by rw [List.flatMap_append,iE]
 have Cq: [x].flatMap K.f=K.f x:=by simp
 rw [Cq] at hx
 rw [e0,Cq,rD]
 generalize (xs.take i).flatMap K.f=P at*
 generalize (xs.drop i).flatMap K.f=Q at*
 rw [Nat.one_mul] at hg⊢
 rw [cA (Nat.le_of_eq hx),cH P Q gs,List.drop_left' hP,List.take_left' hQ]
 have hT:((P++(Q++gs)).take ((i+1)*K.sz)).length=(i+1)*K.sz:=by
  rw [b0,bm,bm,hP,hQ,hg,Nat.succ_mul];omega
 have hS:((P++(Q++gs)).drop ((i+1)*K.sz)).length=Q.length:=by
  rw [cL,bm,bm,hP,hQ,hg,Nat.succ_mul];omega
 have hTS:=List.take_append_drop ((i+1)*K.sz) (P++(Q++gs))
 have hTP:(P++(Q++gs)).take ((i+1)*K.sz)=P++(Q++gs).take K.sz:=by
  rw [Nat.succ_mul,← hP,List.take_length_add_append]
 have s1:ba (P++(Q++gs)) ((i+1)*K.sz) Q=(P++(Q++gs)).take ((i+1)*K.sz)++Q:=by
  have:=mS (P:=(P++(Q++gs)).take ((i+1)*K.sz)) (M:=(P++(Q++gs)).drop ((i+1)*K.sz)) (N:=Q) (R:= []) hS
  rw [fj,fj,hTS,hT] at this
  exact this
 rw [s1,hTP,← hP]
 have hl:((Q++gs).take K.sz).length=(K.f x).length:=by rw [b0,bm,hg,hx];omega
 rw [mS hl,cH]
def s6 {xs rs:List α} {x:α} {i l1 k1 d1 k2 d2:Nat} (hi:i≤xs.length) (hr:rs.length=xs.length+1-i) (e1:l1=i+1) (e2:min k1 d1=1) (e3:min k2 d2=xs.length-i):
 ba (ba ((xs.take i++rs).flatMap K.f) (i*K.sz) (([x].flatMap K.f).take (min k1 d1*K.sz))) (l1*K.sz) (((xs.drop i).flatMap K.f).take (min k2 d2*K.sz))=(xs.take i++x::xs.drop i).flatMap K.f:=by
 rw [e2,e3,e1]
 have hP:((xs.take i).flatMap K.f).length=i*K.sz:=by rw [K.size,b0,fD hi]
 have hQ:((xs.drop i).flatMap K.f).length=(xs.length-i)*K.sz:=by rw [K.size,cL]
 have hR:(rs.flatMap K.f).length=K.sz+(xs.length-i)*K.sz:=by rw [K.size,hr,show xs.length+1-i=(xs.length-i)+1 by omega,Nat.succ_mul,Nat.add_comm]
 have hx:([x].flatMap K.f).length=K.sz:=by rw [K.size];simp
 have e0:(xs.take i++x::xs.drop i).flatMap K.f=(xs.take i).flatMap K.f++(K.f x++(xs.drop i).flatMap K.f):=by rw [List.flatMap_append,iE]
 have Cq: [x].flatMap K.f=K.f x:=by simp
 rw [Cq] at hx
 rw [e0,Cq,List.flatMap_append]
 generalize (xs.take i).flatMap K.f=P at*
 generalize (xs.drop i).flatMap K.f=Q at*
 generalize rs.flatMap K.f=R at*
 rw [Nat.one_mul,cA (Nat.le_of_eq hx),cA (Nat.le_of_eq hQ)]
 have hRd:=List.take_append_drop K.sz R
 have s1:ba (P++R) (i*K.sz) (K.f x)=P++K.f x++R.drop K.sz:=by
  rw [← hP,← hRd,← cH,mS (by rw [b0,hR,hx];omega),hRd]
 rw [s1]
 have hl:(P++K.f x).length=(i+1)*K.sz:=by rw [bm,hP,hx,Nat.succ_mul]
 have:=mS (P:=P++K.f x) (M:=R.drop K.sz) (N:=Q) (R:= []) (by rw [cL,hR,hQ];omega)
 rw [fj,fj,hl] at this
 rw [this,cH]
end
section
variable {P:Program} {n:Nat} {U:Nat→Prop} {w0 w:World} {Q:Exit→Act→World→Prop} {s:S} {H K C:List aM} {R R':World→Prop}
def SS.left (h:SS U w0 w (C++K)):SS U w0 w C:=by
 have:=h.perm List.perm_append_comm
 clear h
 induction K with
 |nil=>exact this
 |cons A K ih=>exact ih this.tail
def mA (R:World→Prop) (Cs:List aM):Prop:= ∀U w0 w,SS U w0 w Cs→R w
def Gr (R:World→Prop):aM:=g9 (mA R)
def SS.gr (h:SS U w0 w (Gr R::H)):R w:=by
 obtain ⟨C,hC,h2⟩:=SS.g9 h
 exact hC _ _ _ h2.left
def _root_.Go.bE.SH.gr {H:List HB} (h:SH U w0 w H) (i:Nat) (hi:(dR H.length [i],pk H [i])=(true,[Gr R])):R w:=by
 simp only [bI] at hi
 have h3:=SH.fS hi.1 h
 rw [hi.2] at h3
 exact SS.gr h3
def mA.of (h:mA R C) (k: ∀w,R w→R' w):mA R' C:=fun U w0 w hS=>k w (h U w0 w hS)
def mA.two {C D:List aM} {R1 R2:World→Prop} (h1:mA R1 C) (h2:mA R2 D):mA (fun w=>R1 w∧R2 w) (C++D):=fun U w0 w hS=>⟨h1 _ _ _ hS.left,h2 _ _ _ (SS.left (hS.perm List.perm_append_comm))⟩
def Gr.p:mA R [Gr R]:=fun _ _ _ hS=>SS.gr hS
def mA.row {α:Type} (K:Kd α) (A:OA) (c:Nat) (xs:List α):mA (K.Rd A xs) [K.row A c xs]:=fun U w0 w hS=>SS.get hS (i:=0) rfl fun F hF=>Row.rc hF.2
def mA.nil (h: ∀w,R w):mA R []:=fun _ _ w _=>h w
def mA.cons {A:aM} {R1 R2:World→Prop} (h1:mA R1 [A]) (h2:mA R2 C):mA (fun w=>R1 w∧R2 w) (A::C):=mA.two (C:= [A]) h1 h2
def S.hd (s:S):Option Code:=match s.ks with|.c x::_=>some x|_=>none
def S.V9 (s:S) (X:Act→World→Prop):List Kt:=match s.ks with|.c x::ks=>.c x::.i X::ks|_=> []
def dj {σ:Type} (E:σ→Env) (Hs:σ→List HB) (φ:σ→Prop) (rest: ∀x,φ x→G P n U w0 Q ⟨E x,Hs x,s.ks.tail⟩) (first: ∀X,(∀s' x' lg,(S.atI s',dR s'.H.length lg,yT s'.L (E x'),Cv s'.H lg)=(some X,true,qC (E x'),Hs x')→φ x'→G P n U w0 Q s')→G P n U w0 Q ⟨s.L,s.H,s.V9 X⟩) (h:s.hd.isSome=true:=by kernel_rfl):G P n U w0 Q s:=by
 obtain ⟨L,H,ks⟩:=s
 unfold S.hd at h
 split at h
 ·rename_i x mW lq
  simp only at lq
  subst lq
  have e:Exit.then (DK P Q mW .normal) (DK P Q mW)=DK P Q mW:=by funext e;cases e<;>rfl
  refine ⟨fun w hS a ha=>?_⟩
  have h2:=(first (DK P Q mW .normal) ?_).go w hS a ha
  ·have h3:x.wp P (Exit.then (DK P Q mW .normal) (DK P Q mW)) a w:=h2
   rw [e] at h3
   exact h3
  ·intro s' x' lg h Bp
   simp only [bI] at h
   obtain ⟨h5,h6,h7,h8⟩:=h
   refine ⟨fun w2 CG a2 Dm=>?_⟩
   have lu:=SH.Cv h6 CG
   rw [h8] at lu
   obtain ⟨L2,H2,nz⟩:=s'
   unfold S.atI at h5
   split at h5
   ·rename_i X Ff hk
    simp only at hk
    subst hk
    simp only [a9] at h5
    subst h5
    exact (rest x' Bp).go w2 lu a2 (Dm.mono (kS h7))
   ·cases h5
 ·cases h
def Uj {ez:Ez} {hs:List Nat} {i:Nat} {α:Type} (K:Kd α) (A:(Nat→Value)→OA) (m c:Nat) (xs:List α) (f:α→UInt8) (z:ByteArray) (hk:mG P K f) (hr: ∀vs w,SE U w0 w [] (s.vA P n ez hs i vs)→K.Rd (A vs) xs w) (h: ∀vs,s.ox P n ez hs i vs (Re P)=some (.slice (A vs) m c,.slice K.e,.string):=by intro _;kernel_rfl) (hm:xs.length=m:=by rfl) (hz:(⟨(xs.map f).toArray⟩:ByteArray)=z:=by rfl):ke P n U w0 s ez hs i ⟨[],fun _=>.string z,[]⟩:=
 mT _ (fun vs Q' w hS=>by
  obtain ⟨x,hx,h1⟩:=S.dU (h vs)
  subst hz
  exact xt K hx h1 hk hm (hr vs w hS) ⟨rfl,rfl⟩) fun _ _=>rfl
def _root_.Go.bE.SE.gr {X Y:List aM} (h:SE U w0 w X Y) (i:Nat) (e:Y[i]? =some (Gr R)):R w:=by
 obtain ⟨K,hK⟩:=h
 obtain ⟨j,hj,e2⟩:=List.getElem_of_mem (aI e)
 have h1:SS U w0 w (Gr R::_):=hK.perm (iG (i:=X.length+i) (by rw [gD (Nat.le_add_right _ _),Nat.add_sub_cancel_left,lW (aN.1 e).1,e]))
 exact SS.gr h1
def _root_.Go.bE.SH.fa {H:List HB} {φ:Prop} (h:SH U w0 w H) (i:Nat) (hi:(dR H.length [i],pk H [i])=(true,[aM.fact φ])):φ:=by
 simp only [bI] at hi
 have h3:=SH.fS hi.1 h
 rw [hi.2] at h3
 exact (SS.fact h3).1
def Zt {σ:Type} (l0:Nat) (E:σ→Env) (Hs:σ→List HB) (φ:σ→Prop) (rest: ∀J x,φ x→G P n U w0 Q ⟨E x,Hs x,.c (behind s.lJ l0)::.l J::s.oG⟩) (first: ∀J,(∀s' x' lg,(s'.ks,dR s'.H.length lg,yT s'.L (E x'),Cv s'.H lg)=(.c (behind s.lJ l0)::.l J::s.oG,true,qC (E x'),Hs x')→φ x'→G P n U w0 Q s')→(∀s' x' lg,(S.gto s',dR s'.H.length lg,yT s'.L (E x'),Cv s'.H lg)=(some (l0,J),true,qC (E x'),Hs x')→φ x'→G P n U w0 Q s')→G P n U w0 Q ⟨s.L,s.H,.c s.lJ::.l J::s.oG⟩) (h:(s.tj,qD s.lJ l0)=(true,true):=by kernel_rfl):G P n U w0 Q s:=by
 simp only [bI] at h
 obtain ⟨h1,h2⟩:=h
 refine ⟨fun w hS a ha=>?_⟩
 obtain ⟨L,H,ks⟩:=s
 unfold S.tj at h1
 split at h1
 ·rename_i c mW lq
  simp only at lq
  subst lq
  refine BF (Q:=DK P Q mW) l0 E (fun x w=>φ x∧SH U w0 w (Hs x)) (fun _=>0) (sm h2) ?_ ?_ a ha
  ·rintro x w ⟨hx,hw⟩ a ha
   exact (rest (fun l a' w'=>l=l0∧ ∃s',Fr n (E s') a'∧(φ s'∧SH U w0 w' (Hs s'))∧0<0) x hx).go w hw a ha
  ·intro je a ha
   refine (first (fun l a' w'=>l=l0∧ ∃s',Fr n (E s') a'∧(φ s'∧SH U w0 w' (Hs s'))) ?_ ?_).go w hS a ha
   ·exact qdz
   ·intro s' x' lg h Bp
    simp only [bI] at h
    obtain ⟨h5,h6,h7,h8⟩:=h
    refine Si h5 fun w2 CG a2 Dm=>?_
    have lu:=SH.Cv h6 CG
    rw [h8] at lu
    exact ⟨rfl,x',Dm.mono (kS h7),⟨Bp,lu⟩⟩
 ·cases h1
def Ct.g9 {f:FuncId} {args:Array Value} {jx:World→Prop} {C:List aM} {R:Value→List aM→Prop} (h:Ct P f args jx C R):Ct P f args jx C (fun v Cs=>(∃C0,R v C0)∧Cs= [Go.bE.g9 (R v)]):=fun U w hp hS=>
 (h U w hp hS).mono fun _ w' ⟨v,he,Cs,hr,hs⟩=>⟨v,he,_,⟨⟨Cs,hr⟩,rfl⟩,SS.rE (K:= []) (by rw [fj];exact hs) hr⟩
def hO.g9 {f:FuncId} {args:Array Value} {jx:(Nat→Prop)→World→Prop} {C:List aM} {R:Value→List aM→Prop} (h:hO P f args jx C R):hO P f args jx C (fun v Cs=>(∃C0,R v C0)∧Cs= [Go.bE.g9 (R v)]):=fun U w hp hS=>
 (h U w hp hS).mono fun _ w' ⟨v,he,Cs,hr,hs⟩=>⟨v,he,_,⟨⟨Cs,hr⟩,rfl⟩,SS.rE (K:= []) (by rw [fj];exact hs) hr⟩
def SS.V_ {β:Type} (f:β→aM) (l:List β) (i:Nat) (x:β) (hi:i<l.length) (hS:SS U w0 w (f x::aM.all ((l.take i++l.drop (i+1)).map f)::K)):SS U w0 w (aM.all ((l.set i x).map f)::K):=by
 have e1:(l.set i x).map f=(l.take i).map f++f x::(l.drop (i+1)).map f:=by
  rw [List.set_eq_take_append_cons_drop,if_pos hi,cT,fm]
 rw [e1]
 refine SS.tz ?_
 have h1:=SS.all (hS.perm (List.Perm.swap _ _ _))
 rw [cT] at h1
 have h2:SS U w0 w ((f x::((l.take i).map f++(l.drop (i+1)).map f))++K):=h1.perm List.perm_middle
 exact h2.perm (List.Perm.append_right _ List.perm_middle.symm)
def fQ {β:Type} (a b i:Nat) (f:β→aM) (l:List β) (x:β) (hi:i<l.length) (k:G P n U w0 Q {s with H:=gv s.H [a,b] [.k (aM.all ((l.set i x).map f))]}) (h:(dR s.H.length [a,b],pk s.H [a,b])=(true,[f x,aM.all ((l.take i++l.drop (i+1)).map f)]):=by kernel_rfl):G P n U w0 Q s:=
 js [a,b] _ [.k (aM.all ((l.set i x).map f))] h (fun _ _ hS=>SS.V_ f l i x hi hS) k
def pN {β:Type} (a b:Nat) (f:β→aM) (l m:List β) (k:G P n U w0 Q {s with H:=gv s.H [a,b] [.k (aM.all ((l++m).map f))]}) (h:(dR s.H.length [a,b],pk s.H [a,b])=(true,[aM.all (l.map f),aM.all (m.map f)]):=by kernel_rfl):G P n U w0 Q s:=
 js [a,b] _ [.k (aM.all ((l++m).map f))] h (fun w K hS=>by
  show SS U w0 w (aM.all ((l++m).map f)::K)
  rw [cT]
  refine SS.tz ?_
  have h1:SS U w0 w (aM.all (l.map f)::aM.all (m.map f)::K):=hS
  have h2:=SS.all h1
  have h3:=SS.all (h2.perm List.perm_middle)
  refine h3.perm ?_
  rw [← cH]
  exact List.Perm.append_right _ List.perm_append_comm) k
def O1 {ez:Ez} {hs:List Nat} {i:Nat} (o:BinOp) (kd:IntKind) (a b v:(Nat→Value)→Int) (hb: ∀vs,k6 o (b vs)) (h: ∀vs,s.ox P n ez hs i vs (fun L x=>XC L x)=some (o,kd,a vs,b vs):=by intro _;kernel_rfl) (e: ∀vs,NW o kd (a vs) (b vs)=v vs:=by intro _;rfl) (u: ∀vs z,v (ik vs i z)=v vs:=by intro _ _;rfl):ke P n U w0 s ez hs i ⟨[],fun vs=>.int kd (v vs),[]⟩:=
 mT _ (fun vs Q' w hS=>by
  obtain ⟨x,hx,h1⟩:=S.dU (h vs)
  rw [show v vs=NW o kd (a vs) (b vs) from (e vs).symm]
  exact CD hx h1 (hb vs) ⟨by rw [e],rfl⟩) fun vs z=>by rw [u]
end
