/- For the law of worlds: The engine. -/
import Derived.Test.YtfookmefmjhonaaGreatZ02
set_option linter.all false
namespace Go.bE
open Go.RowKit
section
variable {P:Program} {n:Nat} {ops:Array Oper} {Q:Exit→Act→World→Prop} {w:World} {L:Env} {U:Nat→Prop} {w0:World} {H:List Ck}
def nU {α:Type} (P:Program) (r:Nat):Sem α→Option (Obj×α)
 |.program k=>nU P r (k P)
 |.mark _ k=>nU P r k
 |.new o k=>(bc P (k r)).map fun a=>(o,a)
 |_=>none
def uc {α:Type} {r:Nat}: ∀ {s:Sem α} {o:Obj} {a:α} {w:World},nU P r s=some (o,a)→r=w.heap.size→s.run P w=.ok a (w.alloc o):=by
 intro s
 induction s with
 |program k ih=>intro o a w h hr;exact ih P h hr
 |mark m k ih=>intro o a w h hr;exact ih h hr
 |new o k ih=>
  intro o' a w h hr
  subst hr
  simp only [nU,fV,bI] at h
  obtain ⟨x,hx,rfl,rfl⟩:=h
  show (k w.heap.size).run P (w.alloc o)=_
  exact eO hx _
 |_=>intro o a w h;simp [nU] at h
def ba (cs:List Value) (o:Nat) (vs:List Value):List Value:=cs.take o++vs++cs.drop (o+vs.length)
def o0 {cs vs:List Value} {o:Nat} (h:o+vs.length≤cs.length):(ba cs o vs).length=cs.length:=by
 exact qqr
def Ch.setRow {g:Nat} {cs:Array Value} {F:Nat→Prop} (hg:F g):Ch F w (w.setRow g cs):=
 ⟨rfl,rfl,rfl,by simp,fun b _ hn=>setRow_other w g b cs (fun e=>hn (by rw [e];exact hg)),bO _⟩
def qi {g o:Nat} {t ty:TypeId} {cs:List Value} {v:Value} (hg:(pH g t cs).P w) (hs:bc P (sizeOf ty)=some v.cells.size) (ho:o+v.cells.size≤cs.length) (h1: ∀u∈v.cells.toList,u.oneCell'=true):
 (storeVar ty ⟨g,o,none⟩ v).run P w=.ok () (w.setRow g (ba cs o v.cells.toList).toArray):=by
 have h':w.heap[g]? =some (.cells cs.toArray t (0,0)):=hg
 have h2:=run_storeCells_at P g o t v.cells.toList 0 cs.toArray w h' (by simpa using ho) h1
 simp only [Nat.add_zero] at h2
 simp [storeVar,pure_run hs,h2,ba]
def GB {i c g o:Nat} {t t' ty:TypeId} {x y:Operand} {cs:List Value} {v:Value} {Post:Value→World→Prop} (hx:ef ops L i=some (.store t x y,ty)) (ha:L.ev x=.pointer (some ⟨g,o,none⟩)) (hv:L.ev y=v)
 (hS:St U w0 w H) (hc:H[c]? =some (pH g t' cs)) (hs:bc P (sizeOf t)=some v.cells.size) (ho:o+v.cells.size≤cs.length) (h1:v.cells.toList.all (·.oneCell')=true)
 (hp: ∀w',St U w0 w' (H.set c (pH g t' (ba cs o v.cells.toList)))→Ch (fun b=>b=g) w w'→Post undef w'):One P n ops Q i L w Post:=by
 have hg:=hS.get hc
 refine jQ hx (w':=w.setRow g (ba cs o v.cells.toList).toArray) ?_ (hp _ ?_ (Ch.setRow rfl))
 ·simp [ex,execOp,Instr.storeAt,Instr.sureAddr,ha,hv,qi hg hs ho (dE.1 h1)]
 ·exact hS.upd hc (Ch.setRow rfl) _ (setRow_heap w g _ _ t' (0,0) hg) (fun b hb=>.inl hb)
def Row.slice {e:TypeId} {sz m:Nat} {v:Value} {cs:List Value} (h:(Row e sz v m cs).P w): ∃A c,v=.slice A m c:=by
 obtain ⟨_,⟨rfl,rfl⟩|⟨g,cap,cur,rfl,_⟩⟩:=h
 ·exact ⟨none,0,rfl⟩
 ·exact ⟨_,cap,rfl⟩
def Row.len {e:TypeId} {sz m:Nat} {v:Value} {cs:List Value} (h:(Row e sz v m cs).P w):cs.length=m*sz:=h.1
def Row.form {e:TypeId} {sz m c:Nat} {A:OA} {cs:List Value} (h:(Row e sz (.slice A m c) m cs).P w) (hm:0<m): ∃g,A=some ⟨g,0,none⟩∧ ∀j v,cs[j]? =some v→w.cell? ⟨g,j,none⟩=some v:=by
 obtain ⟨hl,⟨h1,h2⟩|⟨g,cap,cur,h1,_,hg,hn,_,pq,ht⟩⟩:=h
 ·omega
 ·injection h1 with h1 h2 h3
  refine ⟨g,h1,fun j v hj=>?_⟩
  rw [← ht,List.getElem?_take] at hj
  split at hj
  ·have pQ:cur[j]? =some v:=by simpa using hj
   simp [World.cell?,hg,pQ]
  ·cases hj
def Row.own {e:TypeId} {sz m c g:Nat} {cs:List Value}:(Row e sz (.slice (some ⟨g,0,none⟩) m c) m cs).F g:=rfl
def Row.nil {e:TypeId} {sz:Nat} (h:St U w0 w H):St U w0 w (Row e sz (.slice none 0 0) 0 []::H):=
 h.new (Ch.refl _ _) _ (World.ownsRow_nil w 0 e sz) (fun b hb=>by cases hb)
def Row.TS {g:Nat} {e:TypeId} {sz m:Nat} {cs:List Value} (h:(pH g e cs).P w) (hl:cs.length=m*sz) (hm:m≤maxLen):(Row e sz (.slice (some ⟨g,0,none⟩) m m) m cs).P w:=by
 refine ⟨hl,.inr ⟨g,m,cs.toArray,rfl,bh _,h,bO _,hm,by simpa using hl,?_⟩⟩
 rw [cA]
 simp [hl]
def ym {i c g o m cap:Nat} {e t ty:TypeId} {sz:Nat} {x y:Operand} {cs:List Value} {v:Value} {Post:Value→World→Prop} (hx:ef ops L i=some (.store t x y,ty)) (ha:L.ev x=.pointer (some ⟨g,o,none⟩)) (hv:L.ev y=v)
 (hS:St U w0 w H) (hc:H[c]? =some (Row e sz (.slice (some ⟨g,0,none⟩) m cap) m cs)) (hs:bc P (sizeOf t)=some v.cells.size) (ho:o+v.cells.size≤cs.length) (h1:v.cells.toList.all (·.oneCell')=true)
 (hp: ∀w',St U w0 w' (H.set c (Row e sz (.slice (some ⟨g,0,none⟩) m cap) m (ba cs o v.cells.toList)))→Ch (fun b=>b=g) w w'→Post undef w'):One P n ops Q i L w Post:=by
 have hg:=hS.get hc
 obtain ⟨hl,⟨h2,_⟩|⟨g',k8,cur,h2,hb,hh,hn,hmx,pq,ht⟩⟩:=hg
 ·cases h2
 ·have hq:g'=g∧k8=cap:=by
   injection h2 with h3 h4 h5
   injection h3 with h3
   injection h3 with h3
   exact ⟨h3.symm,h5.symm⟩
  obtain ⟨rfl,rfl⟩:=hq
  have hle:cs.length≤cur.size:=by rw [hl,pq];exact dC _ hn
  have Ci:v.cells.size=v.cells.toList.length:=by simp
  refine jQ hx (w':=w.setRow g' (ba cur.toList o v.cells.toList).toArray) ?_ (hp _ ?_ (Ch.setRow rfl))
  ·have hB:(pH g' e cur.toList).P w:=by show w.heap[g']? =_;simpa using hh
   have ji:=qi (o:=o) (ty:=t) hB hs (by rw [← Ci] at*;simp only [Array.length_toList];omega) (dE.1 h1)
   simp [ex,execOp,Instr.storeAt,Instr.sureAddr,ha,hv,ji]
  ·refine hS.upd hc (Ch.setRow rfl) _ ?_ (fun b hb=>.inl hb)
   have WG:(ba cur.toList o v.cells.toList).length=cur.size:=by rw [o0];simp;simp;omega
   refine ⟨by rw [o0 (by rw [← Ci];exact ho)];exact hl,.inr ⟨g',k8,_,rfl,hb,setRow_heap w g' _ _ e (0,0) hh,hn,hmx,by simpa [WG] using pq,?_⟩⟩
   have hk:m*sz=cs.length:=hl.symm
   simp only [ba,hk]
   rw [List.take_append,List.take_append]
   have e1:(cur.toList.take o).length=o:=by simp;omega
   rw [cA (by rw [e1];omega),e1,cA (l:=v.cells.toList) (by omega)]
   have e2:(List.take o cur.toList++v.cells.toList).length=o+v.cells.toList.length:=by rw [bm,e1]
   rw [e2,← ht,List.take_take,List.drop_take]
   have oO:o+v.cells.toList.length≤m*sz:=by omega
   rw [b0,fD (by simp;omega),fD (by omega)]
def C_ {i c k c2 m:Nat} {t t2 ty e:TypeId} {sz bytes:Nat} {z:Value} {x y:Operand} {A:OA} {cap:Nat} {a:Addr} {cs news:List Value} {Post:Value→World→Prop}
 (hx:ef ops L i=some (.call {callee:=.builtin .append,args:= #[x,y],argTypes:= #[t,t2]},ty)) (zG:t2=t) (ha:L.ev x=.slice A m cap) (hy:L.ev y=.slice (some a) k c2)
 (hS:St U w0 w H) (hc:H[c]? =some (Row e sz (.slice A m cap) m cs)) (hu:P.underlying t=some (.slice e)) (hi:(P.info? e).map (fun i=>(i.zero,i.size,i.bytes))=some (some z,sz,bytes)) (hz:z.cells.size=sz) (pq:0<sz)
 (hl:news.length=k*sz) (AP: ∀j u,news[j]? =some u→w.cell? (a.add j)=some u) (h1:news.all (·.oneCell')=true) (Iw:m+k≤maxLen) (hb:(m+k)*bytes≤140737488355328)
 (hp: ∀A' k8 w',St U w0 w' (H.set c (Row e sz (.slice A' (m+k) k8) (m+k) (cs++news)))→Ch (Row e sz (.slice A m cap) m cs).F w w'→Post (.slice A' (m+k) k8) w'):One P n ops Q i L w Post:=by
 subst zG
 obtain ⟨inf,mL,hz0,I4,wu⟩:=info_parts hi
 have nD:=hS.get hc
 obtain ⟨v',w',hr,Kl,hg,_,Nf⟩:=run_append_own_at (P:=P) w 0 t2 ty e inf z sz bytes hu mL hz0 I4 wu hz pq (.slice A m cap) m cs nD a k c2 news hl AP (dE.1 h1) Iw hb (bh _)
 have r5:Ch (Row e sz (.slice A m cap) m cs).F w w':=⟨hg.os,hg.tape,hg.output,hg.size,fun b hb hn=>hg.block b hb (fun e=>hn e.symm),wA _ hr⟩
 obtain ⟨A',k8,rfl⟩:=Row.slice (w:=w') (e:=e) (sz:=sz) (m:=m+k) (cs:=cs++news) Kl
 refine cY hx (w':=w') ?_ (hp A' k8 w' ?_ r5)
 ·simp [ex,execOp,resolve,invoke,builtin,ha,hy,hr]
 ·refine hS.upd hc r5 _ Kl (fun b hb=>?_)
  have vj:(Value.slice A' (m+k) k8).ownBlock=some b:=hb
  rcases Nf with h|h
  ·exact .inl (by show (Value.slice A m cap).ownBlock=some b;rw [← h];exact vj)
  ·rw [h] at vj
   simp only [a9] at vj
   subst vj
   refine .inr ⟨bO _,?_⟩
   obtain ⟨_,⟨h2,_⟩|⟨g',_,cur,h2,_,hh,_⟩⟩:=Kl
   ·rw [h2] at h;cases h
   ·rw [h2] at h
    have:g'=w.heap.size:=by simpa [Value.ownBlock] using h
    exact qoc
end
section
variable {P:Program} {n:Nat} {ops:Array Oper} {Q:Exit→Act→World→Prop} {w:World} {L:Env} {U:Nat→Prop} {w0:World} {H:List Ck}
def One.env {i:Nat} {Post:Value→World→Prop} {L':Env} (hs:Env.sub L' L) (h:One P n ops Q i L' w Post):One P n ops Q i L w Post:=fun a ha=>h a (ha.mono hs)
def wrap_i64 {n:Int} (h: -9223372036854775808≤n∧n≤9223372036854775807):IntKind.i64.wrap n=n:=by
 have h1:IntKind.i64.wrap n=(let m:=n % (2^64:Int);if m≥(2^63:Int) then m- (2^64:Int) else m):=by simp [IntKind.wrap,IntKind.bits,IntKind.signed]
 rw [h1]
 simp only
 split<;>omega
def qQ {g o:Nat} {t ty:TypeId} {cs:List Value} {v:Value} (hB:(pH g t cs).P w) (ht:bc P (isAgg ty)=some false) (hj:cs[o]? =some v):(loadVar ty ⟨g,o,none⟩).run P w=.ok v w:=
 wy ht (pH.cell hB hj)
def qS {g o:Nat} {t ty:TypeId} {cs sub:List Value} (hB:(pH g t cs).P w) (ht:bc P (isAgg ty)=some true) (hs:bc P (sizeOf ty)=some sub.length) (Uf:(cs.drop o).take sub.length=sub):
 (loadVar ty ⟨g,o,none⟩).run P w=.ok (.agg sub.toArray) w:=by
 refine wz ht hs fun j v hj=>?_
 rw [Addr.add_lit]
 refine pH.cell hB ?_
 exact qi9
section
variable {K:Act→World→Prop} {J:Nat→Act→World→Prop} {id l:Nat}
end
def BF {σ:Type} {c R:Code} (l0:Nat) (E:σ→Env) (I:σ→World→Prop) (μ:σ→Nat) (hf:findLabel c l0=some (.seq .skip R))
 (pass: ∀s w,I s w→W P n (E s) R (Exit.labels (fun l a' w'=>l=l0∧ ∃s',Fr n (E s') a'∧I s' w'∧μ s'<μ s) Q) w)
 (first:(∀s w,I s w→W P n (E s) R (Exit.labels (fun l a' w'=>l=l0∧ ∃s',Fr n (E s') a'∧I s' w') Q) w)→W P n L c (Exit.labels (fun l a' w'=>l=l0∧ ∃s',Fr n (E s') a'∧I s' w') Q) w):
 W P n L (.scope c) Q w:=
 P' (fun _=>R) (fun _=>E) (fun _=>I) (fun _=>μ) (fun l=>l=l0) (fun _ h=>by rw [h];exact hf) (fun _ s w _ hI=>pass s w hI) (fun H=>first (fun s w hI=>H l0 s w rfl hI))
def zq (Rl:World→World→Prop):List (Value→World→Prop)→Prop
 | []=>True
 |p::ps=>(∀v w w',p v w→Rl w w'→p v w')∧zq Rl ps
def zq.get {Rl:World→World→Prop}: ∀ {ps:List (Value→World→Prop)},zq Rl ps→ ∀i v w w',(ps.getD i (fun _ _=>True)) v w→Rl w w'→(ps.getD i (fun _ _=>True)) v w'
 | [],_,_,_,_,_,_,_=>by simp
 |p::ps,h,0,v,w,w',hp,hr=>h.1 v w w' hp hr
 |p::ps,h,i+1,v,w,w',hp,hr=>by
  simp only [List.getD_cons_succ] at hp⊢
  exact h.2.get i v w w' hp hr
end
section
variable {P:Program} {n:Nat} {ops:Array Oper} {Q:Exit→Act→World→Prop} {w:World} {L:Env}
structure Inv2 (n:Nat) (ops:Array Oper) (T:kG) (L:Env) (I:(Nat→Bool)→(Nat→Value)→World→Prop) (cC:Array Bool) (a:Act) (w:World) (vs:Nat→Value):Prop where
 len:cC.size=ops.size
 closed: ∀i,i<ops.size→cC.getD i false=true→ ∀j∈T.j7 i,j<ops.size∧cC.getD j false=true
 defers:a.defers= []
 size:a.tmps.size=n
 inv:I (fun j=>cC.getD j false) vs w
 SD: ∀i,i<ops.size→cC.getD i false=true→ ∀d,eN ops i=some d→a.tmps[d]? =some (vs i)
 base: ∀t v,L.get t=some v→(∀i,i<ops.size→cC.getD i false=true→eN ops i≠some t)→a.tmps[t]? =some v
def Fq (D:Nat→Bool) (i:Nat):Nat→Bool:=fun j=>if j=i then true else D j
def DI (vs:Nat→Value) (i:Nat) (v:Value):Nat→Value:=fun j=>if j=i then v else vs j
def _m {id:Nat} (T:kG) (I:(Nat→Bool)→(Nat→Value)→World→Prop) (hm:P.follows .mixedOrders=true) (hT:FY n ops T=true) (h0:I (fun _=>false) (fun _=>undef) w.drew)
 (gX: ∀i,i<ops.size→ ∀D vs w',D i=false→(∀j∈T.j7 i,j<ops.size∧D j=true)→(∀j,j<ops.size→i∈T.j7 j→D j=false)→I D vs w'→One P n ops Q i (cI ops T L vs i) w' (fun v Cz=>I (Fq D i) (DI vs i v) Cz))
 (jJ: ∀D vs w',(∀j,j<ops.size→D j=true)→I D vs w'→WO P n ops [] (cI ops T L vs ops.size) Q w'):W P n L (.region id ops true) Q w:=by
 intro a0 ha0
 simp only [FY,da,dE,List.mem_range] at hT
 obtain ⟨⟨hT1,hT2⟩,hT3⟩:=hT
 have oM: ∀i,i<ops.size→ ∃o,ops[i]? =some o∧iU n ops i=true∧(∀e∈o.after.toList,Region.binds .any e=true→e.on<i)∧
  (∀j∈T.j7 i,∃e∈o.after.toList,Region.binds .any e=true∧(e.on=j∨j∈T.j7 e.on))∧
  (∀k∈T.keys i,∀j,j<ops.size→eN ops j=some k→j=i∨i∈T.j7 j)∧(∀j,j<ops.size→ ∀d,eN ops j=some d→eN ops i=some d→j=i):=by
  intro i hi
  have h:=hT1 i hi
  cases ho:ops[i]?with
  |none=>rw [ho] at h;cases h
  |some o=>
   rw [ho] at h
   simp only [da,dE,List.mem_range,Bool.or_eq_true,Bool.not_eq_true',List.any_eq_true] at h
   obtain ⟨⟨⟨⟨h1,h2⟩,h3⟩,h4⟩,h5⟩:=h
   refine ⟨o,rfl,h1,fun e he hb=>?_,fun j hj=>?_,fun k hk j hj hd=>?_,fun j hj d hd _9=>?_⟩
   ·rcases h2 e he with h|h
    ·rw [hb] at h;cases h
    ·exact qwa
   ·obtain ⟨e,he,hb,h⟩:=h3 j hj
    refine ⟨e,he,hb,?_⟩
    rcases h with h|h
    ·exact .inl (dh h)
    ·exact .inr (dq.1 h)
   ·rcases h4 k hk j hj with (h|h)|h
    ·have:jj (eN ops j) (some k)=true:=nL.2 ⟨k,hd,rfl⟩
     rw [this] at h;cases h
    ·exact .inl (dh h)
    ·exact .inr (dq.1 h)
   ·rcases h5 j hj with h|h
    ·exact dh h
    ·have:jj (eN ops j) (eN ops i)=true:=nL.2 ⟨d,hd,_9⟩
     rw [this] at h;cases h
 have _': ∀k∈T.keys ops.size,∀j,j<ops.size→eN ops j≠some k:=by
  intro k hk j hj hd
  have h:=hT2 k hk j hj
  have h2:jj (eN ops j) (some k)=true:=nL.2 ⟨k,hd,rfl⟩
  rw [h2] at h
  cases h
 have SG: ∀j∈T.j7 ops.size,j<ops.size:=fun j hj=>dY (dF (hT3 j hj)) (bO _)
 have frame: ∀ {cC:Array Bool} {a:Act} {w':World} {vs:Nat→Value} (hI:Inv2 n ops T L I cC a w' vs) (i:Nat),(∀j∈T.j7 i,j<ops.size∧cC.getD j false=true)→
  (∀k∈T.keys i,∀j,j<ops.size→cC.getD j false=true→eN ops j≠some k)→Fr n (cI ops T L vs i) a:=by
  intro cC a w' vs hI i sR MN
  refine ⟨hI.defers,hI.size,fun t v hv=>?_⟩
  have CN:=Env.get_mem hv
  rcases eG.1 CN with h|h
  ·obtain ⟨j,hj,he⟩:=List.mem_filterMap.1 h
   obtain ⟨NZ,hjd⟩:=sR j hj
   cases hd:eN ops j with
   |none=>rw [hd] at he;cases he
   |some d=>
    rw [hd] at he
    simp only [Option.map_some,a9,bI] at he
    obtain ⟨rfl,rfl⟩:=he
    exact hI.SD j NZ hjd d hd
  ·obtain ⟨k,hk,he⟩:=List.mem_filterMap.1 h
   cases hg:L.get k with
   |none=>rw [hg] at he;cases he
   |some u=>
    rw [hg] at he
    simp only [Option.map_some,a9,bI] at he
    obtain ⟨rfl,rfl⟩:=he
    exact hI.base k u hg (fun j hj hl=>MN k hk j hj hl)
 have key: ∀(fuel:Nat) (cC:Array Bool) (a:Act) (w':World) (vs:Nat→Value),Inv2 n ops T L I cC a w' vs→((List.range ops.size).filter fun i=> !cC.getD i false).length≤fuel→wpAny P .any ops Q fuel cC a w':=by
  intro fuel
  have LX: ∀(cC:Array Bool),cC.size=ops.size→Region.ready .any ops cC= []→ ∀i,i<ops.size→cC.getD i false=true:=by
   intro cC hlen hr i
   induction i using Nat.strongRecOn with
   |_ i ih=>
    intro hi
    rcases bK (cC.getD i false) with h|h
    ·exact h
    ·exfalso
     have je:i∈Region.ready .any ops cC:=by
      obtain ⟨o,ho,_,l8,_⟩:=oM i hi
      refine List.mem_filter.2 ⟨List.mem_range.2 hi,?_⟩
      have hg:cC.getD i true=false:=by
       have ou:i<cC.size:=by omega
       simp only [Array.getD,ou,dite_true] at h⊢
       exact h
      simp only [hg,Bool.not_false,Bool.true_and,ho,Option.map_some,Option.getD_some]
      rw [Array.all_eq_true']
      intro e he
      have he':=Array.mem_toList_iff.2 he
      cases hb:Region.binds .any e with
      |false=>simp
      |true=>
       have:=l8 e he' hb
       simp only [Bool.not_true,Bool.false_or]
       exact ih e.on this (by omega)
     rw [hr] at je
     cases je
  have done: ∀(cC:Array Bool) (a:Act) (w':World) (vs:Nat→Value),Inv2 n ops T L I cC a w' vs→Region.ready .any ops cC= []→Q .normal a w':=by
   intro cC a w' vs hI hr
   have iF:=LX cC hI.len hr
   have hw:=jJ _ vs w' iF hI.inv
   have hf:=frame hI ops.size (fun j hj=>⟨SG j hj,iF j (SG j hj)⟩) (fun k hk j hj _=>_' k hk j hj)
   exact hw a hf
  induction fuel with
  |zero=>
   intro cC a w' vs hI hc
   have hr:Region.ready .any ops cC= []:=by
    rw [List.eq_nil_iff_forall_not_mem]
    intro i hi
    obtain ⟨ri,pI⟩:=List.mem_filter.1 hi
    have:i∈(List.range ops.size).filter fun i=> !cC.getD i false:=by
     refine List.mem_filter.2 ⟨ri,?_⟩
     simp only [da,Bool.not_eq_true'] at pI
     have ou:i<cC.size:=by rw [hI.len];exact List.mem_range.1 ri
     have h2:=pI.1
     rw [ff,Array.getElem?_eq_getElem ou] at h2⊢
     exact IC
    have h0:((List.range ops.size).filter fun i=> !cC.getD i false)= []:=dV.1 (by omega)
    rw [h0] at this
    cases this
   exact ⟨hr,done cC a w' vs hI hr⟩
  |succ fuel ih=>
   intro cC a w' vs hI hc
   refine ⟨fun hr=>done cC a w' vs hI hr,fun i hi=>?_⟩
   obtain ⟨ri,pI⟩:=List.mem_filter.1 hi
   have ou:i<ops.size:=List.mem_range.1 ri
   obtain ⟨o,ho,V4,l8,sR,MN,aaa⟩:=oM i ou
   simp only [da,Bool.not_eq_true',ho,Option.map_some,Option.getD_some] at pI
   obtain ⟨HJ,QS⟩:=pI
   have sy:cC.getD i false=false:=by
    have ahz:i<cC.size:=by rw [hI.len];exact ou
    simp only [Array.getD,ahz,dite_true] at HJ⊢
    exact HJ
   have aab: ∀e∈o.after.toList,Region.binds .any e=true→cC.getD e.on false=true:=by
    intro e he hb
    have:=Array.all_eq_true'.1 QS e (Array.mem_toList_iff.1 he)
    simpa [hb] using this
   have MO: ∀j∈T.j7 i,j<ops.size∧cC.getD j false=true:=by
    intro j hj
    obtain ⟨e,he,hb,h⟩:=sR j hj
    have hon:e.on<ops.size:=by have:=l8 e he hb;omega
    have hl:=aab e he hb
    rcases h with rfl|h
    ·exact ⟨hon,hl⟩
    ·exact hI.closed e.on hon hl j h
   have hf:=frame hI i MO (fun k hk j hj hl hd=>by
    rcases MN k hk j hj hd with rfl|h
    ·rw [sy] at hl;cases hl
    ·have:=(hI.closed j hj hl i h).2
     rw [sy] at this;cases this)
   have zT:=gX i ou _ vs w' sy (fun j hj=>MO j hj) (fun j hj JC=>by
    cases hl:cC.getD j false with
    |false=>rfl
    |true=>have:=(hI.closed j hj hl i JC).2;rw [sy] at this;cases this) hI.inv
   refine zT a hf _ fun v Cz hp=>?_
   have hD:(fun j=>(cC.setIfInBounds i true).getD j false)=Fq (fun j=>cC.getD j false) i:=by
    funext j
    unfold Fq
    by_cases oL:j=i
    ·subst oL
     rw [ff,Array.getElem?_setIfInBounds_self,if_pos rfl]
     simp [hI.len,ou]
    ·rw [ff,Array.getElem?_setIfInBounds_ne (Ne.symm oL),← ff,if_neg oL]
   refine ih _ _ _ (DI vs i v) ⟨by simp [hI.len],?_,?_,?_,by rw [hD];exact hp,?_,?_⟩ ?_
   ·intro j hj hl k hk
    by_cases oL:j=i
    ·subst oL
     obtain ⟨h1,h2⟩:=MO k hk
     refine ⟨h1,?_⟩
     by_cases hkj:k=j
     ·subst hkj;rw [sy] at h2;cases h2
     ·rw [ff,Array.getElem?_setIfInBounds_ne (Ne.symm hkj),← ff];exact h2
    ·rw [ff,Array.getElem?_setIfInBounds_ne (Ne.symm oL),← ff] at hl
     obtain ⟨h1,h2⟩:=hI.closed j hj hl k hk
     refine ⟨h1,?_⟩
     by_cases XP:k=i
     ·subst XP;rw [sy] at h2;cases h2
     ·rw [ff,Array.getElem?_setIfInBounds_ne (Ne.symm XP),← ff];exact h2
   ·cases eN ops i<;>exact hI.defers
   ·have:=hI.size
    cases eN ops i with
    |none=>exact this
    |some d=>simp [Act.put,this]
   ·intro j hj hl
    by_cases oL:j=i
    ·subst oL
     simp only [DI,if_true]
     intro d hd
     rw [hd]
     simp only [Act.put]
     have SY:d<n:=by
      unfold iU at V4
      rw [hd] at V4
      exact dY (dF V4) (bO _)
     rw [Array.getElem?_setIfInBounds_self]
     simp [hI.size,SY]
    ·simp only [DI,if_neg oL]
     rw [ff,Array.getElem?_setIfInBounds_ne (Ne.symm oL),← ff] at hl
     have h2:=hI.SD j hj hl
     intro d hd
     cases _9:eN ops i with
     |none=>exact h2 d hd
     |some d'=>
      simp only [Act.put]
      have rz:d'≠d:=by
       rintro rfl
       exact oL (aaa j hj d' hd _9)
      rw [Array.getElem?_setIfInBounds_ne rz]
      exact h2 d hd
   ·intro t u hu wR
    have hti:eN ops i≠some t:=wR i ou (by rw [ff,Array.getElem?_setIfInBounds_self];simp [hI.len,ou])
    have hb:=hI.base t u hu (fun j hj hl=>wR j hj (by
     by_cases oL:j=i
     ·subst oL;rw [sy] at hl;cases hl
     ·rw [ff,Array.getElem?_setIfInBounds_ne (Ne.symm oL),← ff];exact hl))
    cases _9:eN ops i with
    |none=>exact hb
    |some d=>
     simp only [Act.put]
     rw [Array.getElem?_setIfInBounds_ne (fun e=>hti (by rw [_9,e]))]
     exact hb
   ·have je:i∈(List.range ops.size).filter fun j=> !cC.getD j false:=List.mem_filter.2 ⟨ri,by simp [sy]⟩
    have Uf:((List.range ops.size).filter fun j=> !(cC.setIfInBounds i true).getD j false).length<((List.range ops.size).filter fun j=> !cC.getD j false).length:=by
     have he:((List.range ops.size).filter fun j=> !(cC.setIfInBounds i true).getD j false)=((List.range ops.size).filter fun j=> !cC.getD j false).filter fun j=> !(j==i):=by
      rw [List.filter_filter]
      refine List.filter_congr fun j hj=>?_
      by_cases oL:j=i
      ·subst oL
       rw [ff,Array.getElem?_setIfInBounds_self]
       simp [hI.len,ou]
      ·rw [ff,Array.getElem?_setIfInBounds_ne (Ne.symm oL),← ff]
       simp [oL]
     rw [he]
     refine List.length_filter_lt_length_iff_exists.2 ⟨i,je,by simp⟩
    omega
 refine wp_region_any hm ?_
 have hD0:(fun j=>(Array.replicate ops.size false).getD j false)=fun _=>false:=by
  funext j
  rw [ff,Array.getElem?_replicate]
  split<;>rfl
 refine key ops.size _ a0 w.drew (fun _=>undef) ⟨by simp,?_,ha0.defers,ha0.size,by rw [hD0];exact h0,?_,fun t v hv _=>ha0.get t v hv⟩ ?_
 ·exact qo7
 ·exact qo7
 ·refine eF (List.length_filter_le _ _) (by simp)
def idx:List Nat→Nat→Option Nat
 | [],_=>none
 |x::r,i=>bif Nat.beq x i then some 0 else (idx r i).map (· +1)
def jV: ∀ {l:List Nat} {i:Nat},idx l i=none→i∉l
 | [],_,_=>by simp
 |x::r,i,h=>by
  simp only [idx] at h
  cases hb:Nat.beq x i with
  |true=>rw [hb] at h;cases h
  |false=>
   rw [hb] at h
   simp only [cond_false,Option.map_eq_none_iff] at h
   have:=Nat.ne_of_beq_eq_false hb
   simp only [dx,not_or]
   exact ⟨fun e=>this e.symm,jV h⟩
def pH.news {g:Nat} {t:TypeId} {cs:List Value} (h:(pH g t cs).P w): ∀j u,cs[j]? =some u→w.cell? ((⟨g,0,none⟩:Addr).add j)=some u:=fun j u hj=>by
 rw [Addr.add_lit,Nat.zero_add]
 exact pH.cell h hj
variable {U:Nat→Prop} {w0:World} {H:List Ck}
def vC {i c g o m cap:Nat} {e t ty:TypeId} {sz:Nat} {x y:Operand} {A:OA} {cs:List Value} {v:Value} {Post:Value→World→Prop} (hx:ef ops L i=some (.store t x y,ty)) (ha:L.ev x=.pointer (some ⟨g,o,none⟩)) (hv:L.ev y=v)
 (hS:St U w0 w H) (hA:A=some ⟨g,0,none⟩) (hc:H[c]? =some (Row e sz (.slice A m cap) m cs)) (hs:bc P (sizeOf t)=some v.cells.size) (ho:o+v.cells.size≤cs.length) (h1:v.cells.toList.all (·.oneCell')=true)
 (hp: ∀w',St U w0 w' (H.set c (Row e sz (.slice A m cap) m (ba cs o v.cells.toList)))→Ch (fun b=>b=g) w w'→Post undef w'):One P n ops Q i L w Post:=by
 subst hA
 exact ym hx ha hv hS hc hs ho h1 hp
def St.one {c:Ck} (hp:c.P w) (hf: ∀b,c.F b→b<w.heap.size):St c.F w w [c]:=
 ⟨Ch.refl _ _,fun d hd=>by rw [fv.1 hd];exact hp,fun d hd b hb=>by rw [fv.1 hd] at hb;exact ⟨hf b hb,.inl hb⟩,List.pairwise_singleton _ _⟩
def Row.lt {e:TypeId} {sz m:Nat} {v:Value} {cs:List Value} (h:(Row e sz v m cs).P w): ∀b,(Row e sz v m cs).F b→b<w.heap.size:=by
 intro b hb
 have vj:v.ownBlock=some b:=hb
 obtain ⟨_,⟨rfl,_⟩|⟨g,cap,cur,rfl,_,hh,_⟩⟩:=h
 ·cases vj
 ·have:g=b:=by simpa [Value.ownBlock] using vj
  exact qoc
end
section
variable {P:Program} {n:Nat} {ops:Array Oper} {Q:Exit→Act→World→Prop} {w w':World} {L:Env} {U:Nat→Prop} {w0:World}
structure aM where
 H:(Nat→Prop)→World→Prop
 loc: ∀F w w',(∀b,F b→w'.heap[b]? =w.heap[b]?)→H F w→H F w'
namespace aM
def of (c:Ck):aM:=⟨fun F w=>(∀b,F b↔c.F b)∧c.P w,fun _ w w' h hp=>⟨hp.1,c.loc w w' (fun b hb=>h b ((hp.1 b).2 hb)) hp.2⟩⟩
def emp:aM:=⟨fun F _=> ∀b,¬F b,fun _ _ _ _ h=>h⟩
def fact (φ:Prop):aM:=⟨fun F _=>(∀b,¬F b)∧φ,fun _ _ _ _ h=>h⟩
def ex {α:Type} (A:α→aM):aM:=⟨fun F w=> ∃x,(A x).H F w,fun F w w' h ⟨x,hx⟩=>⟨x,(A x).loc F w w' h hx⟩⟩
def star (A B:aM):aM:=⟨fun F w=> ∃F1 F2,(∀b,F b↔F1 b∨F2 b)∧(∀b,F1 b→F2 b→False)∧A.H F1 w∧B.H F2 w,
 fun F w w' h hh=>by
  obtain ⟨F1,F2,h1,h2,h3,h4⟩:=hh
  exact ⟨F1,F2,h1,h2,A.loc F1 w w' (fun b hb=>h b ((h1 b).2 (.inl hb))) h3,B.loc F2 w w' (fun b hb=>h b ((h1 b).2 (.inr hb))) h4⟩⟩
def all:List aM→aM
 | []=>emp
 |A::l=>star A (all l)
def le (A B:aM):Prop:= ∀F w,A.H F w→B.H F w
def le.refl (A:aM):A.le A:=fun _ _ h=>h
def le.trans {A B C:aM} (h:A.le B) (k:B.le C):A.le C:=fun F w x=>k F w (h F w x)
def iW {A A' B B':aM} (h:A.le A') (k:B.le B'):(star A B).le (star A' B'):=fun _ w ⟨F1,F2,h1,h2,h3,h4⟩=>⟨F1,F2,h1,h2,h F1 w h3,k F2 w h4⟩
def wK (A B:aM):(star A B).le (star B A):=fun _ _ ⟨F1,F2,h1,h2,h3,h4⟩=>⟨F2,F1,fun b=>(h1 b).trans Or.comm,fun b x y=>h2 b y x,h4,h3⟩
def pj (A B C:aM):(star (star A B) C).le (star A (star B C)):=fun _ _ ⟨F12,F3,h1,h2,⟨F1,F2,k1,k2,a,b⟩,c⟩=>
 ⟨F1,fun x=>F2 x∨F3 x,fun x=>by rw [h1,k1,or_assoc],fun x hx hy=>hy.elim (k2 x hx) (h2 x ((k1 x).2 (.inl hx))),a,F2,F3,fun _=>Iff.rfl,fun x hx hy=>h2 x ((k1 x).2 (.inr hx)) hy,b,c⟩
def lG (A B C:aM):(star A (star B C)).le (star (star A B) C):=fun _ _ ⟨F1,F23,h1,h2,a,F2,F3,k1,k2,b,c⟩=>
 ⟨fun x=>F1 x∨F2 x,F3,fun x=>by rw [h1,k1,or_assoc],fun x hx hy=>hx.elim (fun hx=>h2 x hx ((k1 x).2 (.inr hy))) (fun hx=>k2 x hx hy),⟨F1,F2,fun _=>Iff.rfl,fun x hx hy=>h2 x hx ((k1 x).2 (.inl hy)),a,b⟩,c⟩
def J2 (A:aM):(star emp A).le A:=fun _ w ⟨F1,F2,h1,_,h3,h4⟩=>A.loc _ w w (fun _ _=>rfl) (by
 have e:F2=_:=funext fun b=>propext ((h1 b).trans ⟨fun h=>h.elim (fun h=>(h3 b h).elim) id,.inr⟩).symm
 rw [← e];exact h4)
def tO (A:aM):A.le (star emp A):=fun F _ h=>⟨fun _=>False,F,fun _=>⟨.inr,fun h=>h.elim False.elim id⟩,fun _ h _=>h,fun _ h=>h,h⟩
def Gy (A B C:aM):(star A (star B C)).le (star B (star A C)):=(lG A B C).trans ((iW (wK A B) (le.refl C)).trans (pj B A C))
def J3 {l l':List aM} (h:l.Perm l'):(all l).le (all l'):=by
 induction h with
 |nil=>exact le.refl _
 |cons A _ ih=>exact iW (le.refl A) ih
 |swap A B l=>exact Gy B A (all l)
 |trans _ _ ih1 ih2=>exact ih1.trans ih2
def all_append (l k:List aM):(all (l++k)).le (star (all l) (all k)):=by
 induction l with
 |nil=>exact tO _
 |cons A l ih=>exact (iW (le.refl A) ih).trans (lG A (all l) (all k))
def pn (l k:List aM):(star (all l) (all k)).le (all (l++k)):=by
 induction l with
 |nil=>exact J2 _
 |cons A l ih=>exact (pj A (all l) (all k)).trans (iW (le.refl A) ih)
end aM
structure SS (U:Nat→Prop) (w0 w:World) (H:List aM):Prop where
 ch:Ch U w0 w
 own: ∃F,(aM.all H).H F w∧ ∀b,F b→b<w.heap.size∧(U b∨w0.heap.size≤b)
section
variable {H K:List aM} {A B:aM}
def SS.nil (U:Nat→Prop) (w:World):SS U w w []:=⟨Ch.refl _ _,fun _=>False,fun _ h=>h,fun _ h=>h.elim⟩
def SS.le (h:SS U w0 w H) (k:(aM.all H).le (aM.all K)):SS U w0 w K:=⟨h.ch,h.own.elim fun F x=>⟨F,k F w x.1,x.2⟩⟩
def SS.perm (h:SS U w0 w H) (k:H.Perm K):SS U w0 w K:=h.le (aM.J3 k)
def SS.tail (h:SS U w0 w (A::H)):SS U w0 w H:=by
 obtain ⟨F,⟨F1,F2,h1,_,_,h4⟩,hf⟩:=h.own
 exact ⟨h.ch,F2,h4,fun b hb=>hf b ((h1 b).2 (.inr hb))⟩
def SS.J4 (h:SS U w0 w (A::H)) (k:A.le B):SS U w0 w (B::H):=h.le (aM.iW k (aM.le.refl _))
def SS.head (h:SS U w0 w (A::H)): ∃F,A.H F w:=by
 obtain ⟨F,⟨F1,F2,_,_,h3,_⟩,_⟩:=h.own
 exact ⟨F1,h3⟩
def SS.ex {α:Type} {A:α→aM} (h:SS U w0 w (aM.ex A::H)): ∃x,SS U w0 w (A x::H):=by
 obtain ⟨F,⟨F1,F2,h1,h2,⟨x,h3⟩,h4⟩,hf⟩:=h.own
 exact ⟨x,h.ch,F,⟨F1,F2,h1,h2,h3,h4⟩,hf⟩
def SS.ex_ {α:Type} {A:α→aM} (x:α) (h:SS U w0 w (A x::H)):SS U w0 w (aM.ex A::H):=h.J4 fun _ _ hx=>⟨x,hx⟩
def SS.star (h:SS U w0 w (aM.star A B::H)):SS U w0 w (A::B::H):=h.le (aM.pj A B (aM.all H))
def SS.RD (h:SS U w0 w (A::B::H)):SS U w0 w (aM.star A B::H):=h.le (aM.lG A B (aM.all H))
def SS.tz (h:SS U w0 w (H++K)):SS U w0 w (aM.all H::K):=h.le (aM.all_append H K)
def SS.all (h:SS U w0 w (aM.all H::K)):SS U w0 w (H++K):=h.le (aM.pn H K)
def SS.fact {φ:Prop} (h:SS U w0 w (aM.fact φ::H)):φ∧SS U w0 w H:=⟨h.head.elim fun _ x=>x.2,h.tail⟩
def SS.EP {φ:Prop} (h:SS U w0 w H) (OG:φ):SS U w0 w (aM.fact φ::H):=h.le fun F _ hF=>⟨fun _=>False,F,fun _=>⟨.inr,fun h=>h.elim False.elim id⟩,fun _ h _=>h,⟨fun _ h=>h,OG⟩,hF⟩
def SS.get {i:Nat} {φ:Prop} (h:SS U w0 w H) (hi:H[i]? =some A) (k: ∀F,A.H F w→φ):φ:=by
 obtain ⟨F,hF,hf⟩:=h.own
 clear h hf
 induction H generalizing i F with
 |nil=>simp at hi
 |cons B H ih=>
  obtain ⟨F1,F2,_,_,h3,h4⟩:=hF
  cases i with
  |zero=>simp only [gQ,a9] at hi;subst hi;exact k _ h3
  |succ i=>exact ih (by simpa using hi) F2 h4
def SS.aE (h:SS U w0 w H) (hc:Ch No w w'):SS U w0 w' H:=by
 obtain ⟨F,hF,hf⟩:=h.own
 exact ⟨h.ch.trans hc (fun _ _ x=>x.elim),F,(aM.all H).loc F w w' (fun b hb=>hc.block b (hf b hb).1 id) hF,fun b hb=>⟨dY (hf b hb).1 hc.size,(hf b hb).2⟩⟩
def SS.drew (h:SS U w0 w H):SS U w0 w.drew H:=h.aE (Ch.drew _ _)
def SS.frame (h:SS U w0 w (H++K)): ∃F,SS F w w H∧ ∀w' H',SS F w w' H'→SS U w0 w' (H'++K):=by
 obtain ⟨F,hF,hf⟩:=h.own
 obtain ⟨F1,F2,h1,h2,h3,h4⟩:=aM.all_append H K F w hF
 refine ⟨F1,⟨Ch.refl _ _,F1,h3,fun b hb=>⟨(hf b ((h1 b).2 (.inl hb))).1,.inl hb⟩⟩,fun w' H' h'=>?_⟩
 exact qbj
def SS.new (h:SS U w0 w K) (k:SS No w w' H):SS U w0 w' (H++K):=by
 obtain ⟨F,_,hk⟩:=SS.frame (H:= []) h
 refine hk w' H ⟨k.ch.no,k.own.elim fun G x=>⟨G,x.1,fun b hb=>⟨(x.2 b hb).1,.inr ((x.2 b hb).2.resolve_left id)⟩⟩⟩
def SS.one (h:SS U w0 w (A::K)): ∃F,A.H F w∧(∀b,F b→b<w.heap.size)∧ ∀w' F' B,Ch F w w'→B.H F' w'→(∀b,F' b→F b∨(w.heap.size≤b∧b<w'.heap.size))→SS U w0 w' (B::K):=by
 obtain ⟨F,hF,hf⟩:=h.own
 obtain ⟨F1,F2,h1,h2,h3,h4⟩:=hF
 refine ⟨F1,h3,fun b hb=>(hf b ((h1 b).2 (.inl hb))).1,fun w' F' B hc hB hs=>?_⟩
 have l8: ∀b,F1 b∨F2 b→b<w.heap.size:=fun b hb=>(hf b ((h1 b).2 hb)).1
 refine ⟨h.ch.trans hc (fun b hb x=>?_),fun b=>F' b∨F2 b,⟨F',F2,fun _=>Iff.rfl,fun b x y=>?_,hB,(aM.all K).loc F2 w w' (fun b hb=>hc.block b (l8 b (.inr hb)) (fun x=>h2 b x hb)) h4⟩,fun b hb=>?_⟩
 ·exact qu7
 ·rcases hs b x with h|h
  ·exact h2 b h y
  ·have:=l8 b (.inr y);omega
 ·rcases hb with x|y
  ·rcases hs b x with h5|⟨h5,h6⟩
   ·exact ⟨dY (l8 b (.inl h5)) hc.size,(hf b ((h1 b).2 (.inl h5))).2⟩
   ·exact ⟨h6,.inr (eF h.ch.size h5)⟩
  ·exact ⟨dY (l8 b (.inr y)) hc.size,(hf b ((h1 b).2 (.inr y))).2⟩
end
def lP {H:List aM} {is:List Nat} (h:is.isPerm (List.range H.length)=true):(is.map fun i=>H.getD i aM.emp).Perm H:=by
 have h1:=(List.isPerm_iff.1 h).map fun i=>H.getD i aM.emp
 refine h1.trans (List.Perm.of_eq (List.ext_getElem (by simp) fun i h1 h2=>?_))
 simp [bA,h2]
def SS.pick {H:List aM} (h:SS U w0 w H) (is:List Nat) (hp:is.isPerm (List.range H.length)=true):SS U w0 w (is.map fun i=>H.getD i aM.emp):=h.perm (lP hp).symm
def Tri (P:Program) (f:FuncId) (args:Array Value) (C:List aM) (R:Value→List aM→Prop):Prop:=
 ∀U w,SS U w w C→Calls P f args w fun e w'=> ∃v C',e=.returned v∧R v C'∧SS U w w' C'
def Tri.at {f:FuncId} {args:Array Value} {C K:List aM} {R:Value→List aM→Prop} (h:Tri P f args C R) (hS:SS U w0 w (C++K)):Calls P f args w fun e w'=> ∃v,e=.returned v∧ ∃C',R v C'∧SS U w0 w' (C'++K):=by
 obtain ⟨F,hF,hk⟩:=hS.frame
 exact (h F w hF).mono fun e w' ⟨v,C',he,hR,hs⟩=>⟨v,he,C',hR,hk w' C' hs⟩
abbrev bJ (g:Nat) (t:TypeId) (cs:List Value):aM:=aM.of (pH g t cs)
abbrev row (e:TypeId) (sz:Nat) (v:Value) (m:Nat) (cs:List Value):aM:=aM.of (Row e sz v m cs)
def SS.ck {c:Ck} {K:List aM} (h:SS U w0 w (aM.of c::K)): ∃F,St F w w [c]∧ ∀w' c',St F w w' [c']→SS U w0 w' (aM.of c'::K):=by
 obtain ⟨F,hF,l8,hk⟩:=h.one
 refine ⟨F,⟨Ch.refl _ _,fun d hd=>by rw [fv.1 hd];exact hF.2,fun d hd b hb=>?_,List.pairwise_singleton _ _⟩,fun w' c' hs=>?_⟩
 ·rw [fv.1 hd] at hb
  exact ⟨l8 b ((hF.1 b).2 hb),.inl ((hF.1 b).2 hb)⟩
 ·refine hk w' c'.F (aM.of c') hs.ch ⟨fun _=>Iff.rfl,hs.all c' (fv.2 rfl)⟩ fun b hb=>?_
  obtain ⟨h1,h2⟩:=hs.nC c' (fv.2 rfl) b hb
  exact h2.imp id fun h=>⟨h,h1⟩
def SS.wC {c:Ck} {K:List aM} (h:SS U w0 w K) (hc:Ch No w w') (hp:c.P w') (hf: ∀b,c.F b→w.heap.size≤b∧b<w'.heap.size):SS U w0 w' (aM.of c::K):=
 h.new (H:= [aM.of c]) ⟨hc,c.F,⟨c.F,fun _=>False,fun _=>⟨.inl,fun h=>h.elim id False.elim⟩,fun _ _ h=>h,⟨fun _=>Iff.rfl,hp⟩,fun _ h=>h⟩,fun b hb=>⟨(hf b hb).2,.inr (hf b hb).1⟩⟩
def SS.N4 {i g:Nat} {t:TypeId} {cs:List Value} {K:List aM} (h:SS U w0 w K) (hi:K[i]? =some (bJ g t cs)):(pH g t cs).P w:=h.get hi fun _ x=>x.2
def SS.tP {i m:Nat} {e:TypeId} {sz:Nat} {v:Value} {cs:List Value} {K:List aM} (h:SS U w0 w K) (hi:K[i]? =some (row e sz v m cs)):(Row e sz v m cs).P w:=h.get hi fun _ x=>x.2
end
