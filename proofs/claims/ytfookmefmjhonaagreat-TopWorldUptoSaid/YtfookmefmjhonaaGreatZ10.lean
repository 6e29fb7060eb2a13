/- For the law of worlds: The engine. -/
import Derived.Test.YtfookmefmjhonaaGreatZ09
set_option linter.all false
namespace Go.bE
open Go.RowKit
section
variable {P:Program} {n:Nat} {U:Nat→Prop} {w0 w:World} {Q:Exit→Act→World→Prop} {s:S} {ez:Ez} {hs:List Nat} {i:Nat}
def Wh (P:Program) (L:Env):Op×TypeId→Option (Builtin×TypeId×List Value)
 |(.call ⟨.builtin b,args,ts⟩,_)=>match ts.toList with
  |t::_=>match P.underlying t with
   |some (.slice e)=>some (b,e,args.toList.map L.ev)
   |_=>none
  |_=>none
 |_=>none
def qF {β:Type} {a:Array β} {l:List β} (h:a.toList=l):a=l.toArray:=by cases a;simp at h;subst h;rfl
def oc {cur news:List Value} {o:Nat} (h:o+news.length≤cur.length):(ba cur o news).length=cur.length:=by
 exact qqr
def Ce {cur news:List Value} {o M:Nat} (h:o+news.length≤M) (hM:M≤cur.length):(ba cur o news).take M=ba (cur.take M) o news:=by
 have h1:(cur.take o).length=o:=by rw [b0];omega
 have h2:(cur.take o++news).length=o+news.length:=by rw [bm,h1]
 unfold ba
 rw [List.take_take,fD (show o≤M by omega),List.take_append,cA (show (cur.take o++news).length≤M by omega),h2,List.drop_take]
def Eh {cur news:List Value} {o M:Nat} (h:M≤o) (hM:o≤cur.length):(ba cur o news).take M=cur.take M:=by
 unfold ba
 rw [cH,nS C7,List.take_take,fD h]
def FR {α β:Type} {f:α→β} {l:List α} {a:β} (h:l.map f= [a]): ∃x,l= [x]∧f x=a:=by
 cases l with
 |nil=>cases h
 |cons x l=>
  simp only [fm,List.cons.injEq,List.map_eq_nil_iff] at h
  exact ⟨x,by rw [h.2],h.1⟩
def E3 {α β:Type} {f:α→β} {l:List α} {a b:β} (h:l.map f= [a,b]): ∃x y,l= [x,y]∧f x=a∧f y=b:=by
 cases l with
 |nil=>cases h
 |cons x l=>
  rw [fm,List.cons.injEq] at h
  obtain ⟨y,rfl,h2⟩:=FR h.2
  exact ⟨x,y,rfl,h.1,h2⟩
inductive Ei:Value→Nat→List Value→Nat→World→Prop
 |sl {B:OA} {k c sz:Nat} {news:List Value} {w:World} (hl:news.length=k*sz) (hr:Rc B news w):Ei (.slice B k c) k news sz w
 |str {x:ByteArray} {w:World}:Ei (.string x) x.size (gM x) 1 w
def Ej {size k m c:Nat} {B:OA} {news:List Value} (hm:m≤k) (hl:news.length=k*size) (h:Rc B news w):(Builtin.firstCells size m (.slice B k c)).run P w=.ok (news.take (m*size)).toArray w:=by
 have l8:(news.take (m*size)).length=m*size:=by rw [b0,hl];exact fD (dC _ hm)
 cases B with
 |none=>
  have:news= []:=dV.1 (Nat.eq_zero_of_not_pos fun h0=>qri)
  subst this
  simpa using run_firstCells_none w size m k c
 |some b=>exact run_firstCells_some w size m b k c _ l8 fun j v hj=>(Rc.take h _).at hj
def Ei.run {y:Value} {k m sz:Nat} {news:List Value} (h:Ei y k news sz w) (hm:m≤k):(Builtin.firstCells sz m y).run P w=.ok (news.take (m*sz)).toArray w∧(Builtin.lenOf y).run P w=.ok k w∧news.length=k*sz∧(news.take (m*sz)).length=m*sz:=by
 cases h with
 |sl hl hr=>exact ⟨Ej hm hl hr,by simp [Builtin.lenOf],hl,by rw [b0,hl];exact fD (dC _ hm)⟩
 |str=>
  rename_i x
  refine ⟨?_,by simp [Builtin.lenOf],by simp [gM],by rw [b0];simp [gM];omega⟩
  have:Array.map (fun b:UInt8=>Value.int .u8 (b.toNat:Int)) (x.extract 0 m).data=(List.take m (List.map (fun b:UInt8=>Value.int .u8 (b.toNat:Int)) x.data.toList)).toArray:=by
   apply Array.ext'
   simp [ByteArray.data_extract,← List.map_take]
  simp only [Builtin.firstCells,gM,Nat.mul_one]
  rw [Sem.run_pure,this]
def kO {l:List Value} {p:Value→Bool} {n:Nat} (h:l.all p=true):(l.take n).all p=true:=dE.2 fun v hv=>dE.1 h v (gU hv)
def Cf {e:TypeId} {sz m c l dl dc k i':Nat} {A:OA} {cs news:List Value} {y:Value} {H:List aM} {z:Op×TypeId} {L:Env} {ops:Array Oper} {i:Nat} (hx:ef ops L i=some z) (h:Wh P L z=some (.copy,e,[.slice (dS A c l sz) dl dc,y])) (mL:fK P e sz=true)
 (hS:SS U w0 w H) (hi:H[i']? =some (row e sz (.slice A m c) m cs)) (hs:Ei y k news sz w) (hl:l+min k dl≤m) (h1:(news.take (min k dl*sz)).all (·.oneCell')=true)
 {Post:Value→World→Prop} (hp: ∀w',SS U w0 w' (H.set i' (row e sz (.slice A m c) m (ba cs (l*sz) (news.take (min k dl*sz)))))→Post (.int .i64 ((min k dl:Nat):Int)) w'):One P n ops Q i L w Post:=by
 obtain ⟨inf,zv,ri,pI,vi,Jh,Ip⟩:=gE mL
 obtain ⟨hf,hlen,J8,S_⟩:=hs.run (P:=P) (m:=min k dl) (Nat.min_le_left _ _)
 unfold Wh at h
 split at h
 ·rename_i b args ts ty
  split at h
  ·rename_i t ts' e2
   split at h
   ·rename_i e' hu
    simp only [a9,bI] at h
    obtain ⟨rfl,rfl,ha⟩:=h
    have oM:=hS.tP hi
    have Wi:Nat.min k dl=min k dl:=rfl
    obtain ⟨x1,x2,jC,Dl,Dm⟩:=E3 ha
    have jC:=qF jC
    subst jC
    have Lb:ts[0]? =some t:=by rw [← Array.getElem?_toList,e2];rfl
    have rD:cs.length=m*sz:=oM.1
    rcases Nat.eq_zero_or_pos (min k dl) with h0|h0
    ·have ji:(storeCells (default:Addr) [] 0).run P w=.ok () w:=by simp [storeCells]
     have aan:news.take (min k dl*sz)= []:=by rw [h0];simp
     rw [aan] at hf
     refine cY hx (w':=w) ?_ (hp _ ?_)
     ·simp only [ex,execOp,resolve,invoke,builtin]
      cases hD:dS A c l sz with
      |none=>rw [hD] at Dl;simp [Dl,Dm,Builtin.copy_,Lb,run_underlying hu,sizeOf,typeInfo,ri,vi,hlen,Wi,hf,goInt]
      |some D=>rw [hD] at Dl;simp [Dl,Dm,Builtin.copy_,Lb,run_underlying hu,sizeOf,typeInfo,ri,vi,hlen,Wi,hf,storeCells,goInt]
     ·rw [aan]
      have:ba cs (l*sz) []=cs:=by simp [ba]
      rw [this]
      refine hS.perm (List.Perm.of_eq ?_)
      exact qvy
    ·have Xf:l<m:=by omega
     have hA: ∃g,A=some ⟨g,0,none⟩:=by
      obtain ⟨_,⟨_,h6⟩|⟨g',cap,cur,h6,_⟩⟩:=oM
      ·omega
      ·injection h6 with h6;exact ⟨g',h6⟩
     obtain ⟨g,rfl⟩:=hA
     obtain ⟨cur,hg,h4,h5,h6,h7⟩:=Row.set oM
     have hD:dS (some ⟨g,0,none⟩) c l sz=some ⟨g,l*sz,none⟩:=by
      exact qn3
     rw [hD] at Dl
     have hle:l*sz+min k dl*sz≤m*sz:=by rw [← Nat.add_mul];exact dC _ hl
     have at8:m*sz≤c*sz:=dC _ h4
     have ji:=run_storeCells_at P g (l*sz) _ (news.take (min k dl*sz)) 0 cur w hg (by rw [S_,h6];omega) (fun v hv=>dE.1 h1 v hv)
     simp only [Nat.add_zero] at ji
     have Il:cur.toList.length=c*sz:=by rw [Array.length_toList,h6]
     refine cY hx (w':=w.setRow g (ba cur.toList (l*sz) (news.take (min k dl*sz))).toArray) ?_ (hp _ ?_)
     ·simp only [ex,execOp,resolve,invoke,builtin]
      simp [Dl,Dm,Builtin.copy_,Lb,run_underlying hu,sizeOf,typeInfo,ri,vi,hlen,Wi,hf,ji,ba,goInt]
     ·refine yW hS hi hg h5 ?_ ?_ h4 ?_
      ·rw [List.size_toArray,oc (by rw [S_,Il];omega),Il]
      ·rw [oc (by rw [S_,rD];omega),rD]
      ·rw [Ce (by rw [S_];omega) (by rw [Il];omega),h7]
   ·cases h
  ·cases h
 ·cases h
def nT (e sz i:Nat) (A:OA) (c m:Nat) (cs:List Value) (l dl dc k:Nat) (y:Value) (news:List Value) (hs: ∀w,SH U w0 w s.H→Ei y k news sz w) (hl:l+min k dl≤m) (h1:(news.take (min k dl*sz)).all (·.oneCell')=true) (g:G P n U w0 Q (s.dT (.int .i64 ((min k dl:Nat):Int)) (s.H.set i (.k (row e sz (.slice A m c) m (ba cs (l*sz) (news.take (min k dl*sz)))))))) (h:(s.nx (Wh P),s.vu n,dR s.H.length [i],pk s.H [i],fK P e sz)=(some (.copy,e,[.slice (dS A c l sz) dl dc,y]),true,true,[row e sz (.slice A m c) m cs],true):=by kernel_rfl):G P n U w0 Q s:=by
 simp only [bI] at h
 obtain ⟨PU,h2,h3,h4,h5⟩:=h
 obtain ⟨z,hc,PU⟩:=S.fU PU
 exact iS h2 fun w hS ops Q' j hx=>Cf (hx.trans hc) PU h5 hS (SH.gf h3 h4) (hs w hS) hl h1 fun w' hw=>⟨_,SH.set hw,g⟩
def lU (e sz r:Nat) (A:OA) (c m:Nat) (cs:List Value) (l dl dc k:Nat) (y:Value) (news:List Value) (Dn: ∀vs w,SE U w0 w [row e sz (.slice A m c) m cs] (s.vA P n ez hs i vs)→Ei y k news sz w) (hl:l+min k dl≤m) (h1:(news.take (min k dl*sz)).all (·.oneCell')=true) (h: ∀vs,(s.ox P n ez hs i vs (Wh P),(s.D P n ez hs vs).jh [r],fK P e sz)=(some (.copy,e,[.slice (dS A c l sz) dl dc,y]),[row e sz (.slice A m c) m cs],true):=by intro _;kernel_rfl):ke P n U w0 s ez hs i ⟨[r],fun _=>.int .i64 ((min k dl:Nat):Int),[fun _=>.k (row e sz (.slice A m c) m (ba cs (l*sz) (news.take (min k dl*sz))))]⟩:=by
 refine ⟨fun vs Q' w K' hS=>?_⟩
 have hh:=h vs
 simp only [bI] at hh
 obtain ⟨PU,h2,h3⟩:=hh
 obtain ⟨x,hx,PU⟩:=S.dU PU
 simp only at hS
 rw [h2] at hS
 exact Cf (i':=0) hx PU h3 hS rfl (Dn vs w ⟨K',hS⟩) hl h1 fun w' hw=>⟨rfl,hw⟩
def Ig {e:TypeId} {sz m c l k dc i':Nat} {A:OA} {cs:List Value} {H:List aM} {z:Op×TypeId} {L:Env} {ops:Array Oper} {i:Nat} (hx:ef ops L i=some z) (h:Wh P L z=some (.clear,e,[.slice (dS A c l sz) k dc])) (mL:fK P e sz=true)
 (hS:SS U w0 w H) (hi:H[i']? =some (row e sz (.slice A m c) m cs)) (hl:m≤l) (hk:l+k≤c) (hz:((P.info? e).bind (·.zero)).map (·.cells.toList.all (·.oneCell'))=some true)
 {Post:Value→World→Prop} (hp: ∀w',SS U w0 w' H→Post (.tuple #[]) w'):One P n ops Q i L w Post:=by
 obtain ⟨inf,zv,ri,pI,vi,Jh,Ip⟩:=gE mL
 unfold Wh at h
 split at h
 ·rename_i b args ts ty
  split at h
  ·rename_i t ts' e2
   split at h
   ·rename_i e' hu
    simp only [a9,bI] at h
    obtain ⟨rfl,rfl,ha⟩:=h
    have oM:=hS.tP hi
    obtain ⟨x1,jC,Dl⟩:=FR ha
    have jC:=qF jC
    subst jC
    have Lb:ts[0]? =some t:=by rw [← Array.getElem?_toList,e2];rfl
    rcases Nat.eq_zero_or_pos k with h0|h0
    ·subst h0
     refine cY hx (w':=w) ?_ (hp w hS)
     simp only [ex,execOp,resolve,invoke,builtin]
     cases hD:dS A c l sz with
     |none=>rw [hD] at Dl;simp [Dl,Builtin.clear_,Lb,run_underlying hu]
     |some D=>rw [hD] at Dl;simp [Dl,Builtin.clear_,Lb,run_underlying hu]
    ·have hA: ∃g,A=some ⟨g,0,none⟩:=by
      obtain ⟨_,⟨h6,_⟩|⟨g',cap,cur,h6,_⟩⟩:=oM
      ·injection h6 with _ _ h7;omega
      ·injection h6 with h6;exact ⟨g',h6⟩
     obtain ⟨g,rfl⟩:=hA
     obtain ⟨cur,hg,h4,h5,h6,h7⟩:=Row.set oM
     have hD:dS (some ⟨g,0,none⟩) c l sz=some ⟨g,l*sz,none⟩:=by
      exact qn3
     rw [hD] at Dl
     have I4: ∀v∈zv.cells.toList,v.oneCell'=true:=by
      rw [ri] at hz
      simp only [Option.bind_some,pI,Option.map_some,a9] at hz
      exact dE.1 hz
     have CQ:(Builtin.zeroCells zv.cells k).toList.length=k*sz:=by simp [Builtin.zeroCells,Ip]
     have wu: ∀v∈(Builtin.zeroCells zv.cells k).toList,v.oneCell'=true:=by
      intro v hv
      rcases Nat.eq_zero_or_pos sz with Lp|Lp
      ·have hn:=List.eq_nil_of_length_eq_zero (CQ.trans (by rw [Lp,Nat.mul_zero]))
       rw [hn] at hv;cases hv
      ·rw [lO k zv.cells rfl (by rw [Array.length_toList,Ip];exact Lp)] at hv
       obtain ⟨l2,h8,h9⟩:=List.mem_flatten.1 hv
       rw [List.mem_replicate] at h8
       rw [h8.2] at h9
       exact I4 v h9
     have hle:l*sz+k*sz≤c*sz:=by rw [← Nat.add_mul];exact dC _ hk
     have oO:m*sz≤l*sz:=dC _ hl
     have ji:=run_storeCells_at P g (l*sz) _ (Builtin.zeroCells zv.cells k).toList 0 cur w hg (by rw [CQ,h6];omega) wu
     simp only [Nat.add_zero] at ji
     have Il:cur.toList.length=c*sz:=by rw [Array.length_toList,h6]
     refine cY hx (w':=w.setRow g (ba cur.toList (l*sz) (Builtin.zeroCells zv.cells k).toList).toArray) ?_ (hp _ ?_)
     ·simp only [ex,execOp,resolve,invoke,builtin]
      have hk0:k≠0:=by omega
      simp [Dl,Builtin.clear_,Lb,run_underlying hu,zeroValue,typeInfo,ri,pI,ji,ba]
     ·have:=yW hS hi hg h5 (cur2:=(ba cur.toList (l*sz) (Builtin.zeroCells zv.cells k).toList).toArray) (m2:=m) (wL:=cs) ?_ oM.1 h4 ?_
      ·refine this.perm (List.Perm.of_eq ?_)
       exact qvy
      ·rw [List.size_toArray,oc (by rw [CQ,Il];omega),Il]
      ·rw [Eh oO (by rw [Il];omega),h7]
   ·cases h
  ·cases h
 ·cases h
def s7 (e sz i:Nat) (A:OA) (c m:Nat) (cs:List Value) (l k dc:Nat) (hl:m≤l) (hk:l+k≤c) (g:G P n U w0 Q (s.dT (.tuple #[]) s.H)) (h:(s.nx (Wh P),s.vu n,dR s.H.length [i],pk s.H [i],fK P e sz,((P.info? e).bind (·.zero)).map (·.cells.toList.all (·.oneCell')))=(some (.clear,e,[.slice (dS A c l sz) k dc]),true,true,[row e sz (.slice A m c) m cs],true,some true):=by kernel_rfl):G P n U w0 Q s:=by
 simp only [bI] at h
 obtain ⟨h1,h2,h3,h4,h5,h6⟩:=h
 obtain ⟨z,hc,h1⟩:=S.fU h1
 exact iS h2 fun w hS ops Q' j hx=>Ig (hx.trans hc) h1 h5 hS (SH.gf h3 h4) hl hk h6 fun w' hw=>⟨_,hw,g⟩
end
section
variable {P:Program} {n:Nat} {U:Nat→Prop} {w0 w:World} {Q:Exit→Act→World→Prop} {s:S} {ez:Ez} {hs:List Nat} {i:Nat}
def mkO (P:Program) (L:Env):Op×TypeId→Option (TypeId×Value×Value)
 |(.makeSlice t x y,_)=>match P.underlying t with
  |some (.slice e)=>some (e,L.ev x,L.ev y)
  |_=>none
 |_=>none
def mk_one {α:Type} (K:Kd α) {m:Nat} {x0:α} {z:Op×TypeId} {L:Env} {ops:Array Oper} {i:Nat} {H:List aM} (hx:ef ops L i=some z) (h:mkO P L z=some (K.e,.int .i64 (m:Int),.int .i64 (m:Int))) (mL:fK P K.e K.sz=true) (hz:((P.info? K.e).bind (·.zero)).map (·.cells.toList)=some (K.f x0)) (hb:m≤1073741824) (hS:SS U w0 w H)
 {Post:Value→World→Prop} (hp: ∀a w',SS U w0 w' (K.row (some a) m (List.replicate m x0)::H)→Post (.slice (some a) m m) w'):One P n ops Q i L w Post:=by
 obtain ⟨inf,zv,ri,pI,vi,Jh,Ip⟩:=gE mL
 unfold mkO at h
 split at h
 ·rename_i t x y ty
  split at h
  ·rename_i e hu
   simp only [a9,bI] at h
   obtain ⟨rfl,h1,h2⟩:=h
   obtain ⟨w',hr,nD,hg⟩:=run_make_full (P:=P) w 0 t K.e inf zv K.sz hu ri pI vi .i64 .i64 m (eF (Nat.mul_le_mul Jh hb) (by decide)) qo1 (bh _)
   rw [ri] at hz
   simp only [Option.bind_some,pI,Option.map_some,a9] at hz
   have rD:(madeCells zv.cells (m*K.sz)).toList=(List.replicate m x0).flatMap K.f:=by
    have:madeCells zv.cells (m*K.sz)=Builtin.zeroCells zv.cells m:=by
     simp only [madeCells,Builtin.zeroCells,Ip]
    rw [this,lO m zv.cells hz (by rw [K.len];exact K.pos),r8]
   rw [rD] at nD
   refine cY hx (v:=.slice (some ⟨w.heap.size,0,none⟩) m m) (w':=w') (by simp only [ex,execOp,h1,h2];simp [hr]) (hp _ _ ?_)
   have oM:(Row K.e K.sz (.slice (some ⟨w.heap.size,0,none⟩) (List.replicate m x0).length m) (List.replicate m x0).length ((List.replicate m x0).flatMap K.f)).P w':=by rw [eA];exact nD
   refine hS.wC (c:=Row K.e K.sz (.slice (some ⟨w.heap.size,0,none⟩) (List.replicate m x0).length m) (List.replicate m x0).length ((List.replicate m x0).flatMap K.f)) ⟨hg.os,hg.tape,hg.output,hg.size,fun b hb _=>hg.block b hb (by simp),wA _ hr⟩ oM fun b hb=>?_
   have vj:w.heap.size=b:=by simpa [Row,Value.ownBlock] using hb
   subst vj
   exact ⟨bO _,Row.lt oM _ hb⟩
  ·cases h
 ·cases h
def XY {α:Type} (K:Kd α) (m:Nat) (x0:α) (g: ∀a,G P n U w0 Q (s.dT (.slice (some a) m m) (s.H++ [.k (K.row (some a) m (List.replicate m x0))]))) (h:(s.nx (mkO P),s.vu n,fK P K.e K.sz,((P.info? K.e).bind (·.zero)).map (·.cells.toList))=(some (K.e,.int .i64 (m:Int),.int .i64 (m:Int)),true,true,some (K.f x0)):=by kernel_rfl) (hb:m≤1073741824:=by omega):G P n U w0 Q s:=by
 simp only [bI] at h
 obtain ⟨h1,h2,h3,h4⟩:=h
 obtain ⟨z,hc,h1⟩:=S.fU h1
 exact iS h2 fun w hS ops Q' j hx=>mk_one K (hx.trans hc) h1 h3 h4 hb hS fun a w' hw=>⟨_,SH.Eo hw,g a⟩
def Tb (P:Program) (L:Env):Op×TypeId→Option (OA×Nat×Nat×Nat×Value×Value×Value)
 |(.slice t x (some l) (some h) (some m),_)=>match L.ev x,bc P (underlying t) with
  |.slice A len cap,some (.slice e)=>(bc P (sizeOf e)).map fun sz=>(A,len,cap,sz,L.ev l,L.ev h,L.ev m)
  |_,_=>none
 |_=>none
def Oc {A:OA} {len cap sz l h m:Nat} {z:Op×TypeId} {L:Env} {ops:Array Oper} {i:Nat} (hx:ef ops L i=some z) (hz:Tb P L z=some (A,len,cap,sz,.int .i64 (l:Int),.int .i64 (h:Int),.int .i64 (m:Int))) (h1:l≤h) (h2:h≤m) (h3:m≤cap)
 {Post:Value→World→Prop} (hp:Post (.slice (dS A m l sz) (h-l) (m-l)) w):One P n ops Q i L w Post:=by
 unfold Tb at hz
 split at hz
 ·rename_i t x lo hi mx ty
  split at hz
  ·rename_i A' Ji k8 e ha hu
   simp only [fV,bI] at hz
   obtain ⟨sz',hs,rfl,rfl,rfl,rfl,el,eh,em⟩:=hz
   refine cY hx (w':=w) ?_ hp
   have jh:(Instr.sliceBounds true Ji k8 (some (L.ev lo)) (some (L.ev hi)) (some (L.ev mx))).run P w=.ok (l,h,m) w:=by
    unfold Instr.sliceBounds
    simp [jG el h1,jG eh h2,jG em h3]
   simp [ex,execOp,ha,Instr.sliceAt,Instr.slice,pure_run hu,pure_run hs,jh,dS]
  ·cases hz
 ·cases hz
def Jj (A:OA) (len cap sz l h m:Nat) (k:G P n U w0 Q (s.dT (.slice (dS A m l sz) (h-l) (m-l)) s.H)) (e:(s.nx (Tb P),s.vu n)=(some (A,len,cap,sz,.int .i64 (l:Int),.int .i64 (h:Int),.int .i64 (m:Int)),true):=by kernel_rfl) (h1:l≤h:=by omega) (h2:h≤m:=by omega) (h3:m≤cap:=by omega):G P n U w0 Q s:=by
 simp only [bI] at e
 obtain ⟨e1,e2⟩:=e
 obtain ⟨z,hc,e1⟩:=S.fU e1
 exact iS e2 fun w hS ops Q' j hx=>Oc (hx.trans hc) e1 h1 h2 h3 ⟨_,hS,k⟩
end
end Go.bE
namespace Go.bE
open Go.RowKit
variable {P:Program} {n:Nat} {U:Nat→Prop} {w0 w w':World} {Q:Exit→Act→World→Prop} {s:S} {ez:Ez} {hs:List Nat} {i:Nat}
def ra (A:OA) (cs:List Value) (U:Nat→Prop) (w:World):Prop:= ∀j v,cs[j]? =some v→ ∃a,A=some a∧w.cell? (a.add j)=some v∧ ¬U a.block
def oJ (a:Addr) (j:Nat):(a.add j).block=a.block:=by unfold Addr.add;split<;>rfl
def ra.rc {A:OA} {cs:List Value} (h:ra A cs U w):Rc A cs w:=fun j v hj=>by obtain ⟨a,e,h1,_⟩:=h j v hj;exact ⟨a,e,h1⟩
def Rc.u0 {A:OA} {cs:List Value} (h:Rc A cs w):ra A cs No w:=fun j v hj=>by obtain ⟨a,e,h1⟩:=h j v hj;exact ⟨a,e,h1,id⟩
def ra.aE {A:OA} {cs:List Value} (h:ra A cs U w) (hc:Ch U w w'):ra A cs U w':=fun j v hj=>by
 obtain ⟨a,e,h1,h2⟩:=h j v hj
 exact ⟨a,e,hc.cell h1 (by rw [oJ];exact h2),h2⟩
def ra.nil (A:OA) (U:Nat→Prop) (w:World):ra A [] U w:=fun j v h=>by simp at h
def ra.of {A:OA} {cs:List Value} (h:Rc A cs w) (hn: ∀a,A=some a→0<cs.length→ ¬U a.block):ra A cs U w:=fun j v hj=>by
 obtain ⟨a,e,h1⟩:=h j v hj
 exact ⟨a,e,h1,hn a e (by have:=(aN.1 hj).1;omega)⟩
def ra.sub {A:OA} {cs:List Value} {F:Nat→Prop} (h:ra A cs U w) (hf: ∀b,F b→U b):ra A cs F w:=fun j v hj=>by
 obtain ⟨a,e,h1,h2⟩:=h j v hj
 exact ⟨a,e,h1,fun x=>h2 (hf _ x)⟩
abbrev Kd.gx {α:Type} (K:Kd α) (A:OA) (xs:List α) (U:Nat→Prop) (w:World):Prop:=ra A (xs.flatMap K.f) U w
def H7 {A:OA} {cap l sz:Nat} {a:Addr} (h:dS A cap l sz=some a): ∃b,A=some b∧b.block=a.block:=by
 unfold dS at h
 split at h
 ·exact ⟨a,h,rfl⟩
 ·cases A with
  |none=>cases h
  |some b=>
   simp only [Option.map_some,a9] at h
   subst h
   exact ⟨b,rfl,(oJ _ _).symm⟩
def ra.blocks {A:OA} {cs:List Value} (h:ra A cs U w) (h0:0<cs.length) {a:Addr} (e:A=some a): ¬U a.block:=by
 obtain ⟨b,e2,_,h2⟩:=h 0 _ (dw h0)
 rw [e] at e2
 cases e2
 exact h2
def Kd.KU {α:Type} {K:Kd α} {A:OA} {cap l:Nat} {xs:List α} (h:K.gx A xs U w) (hl:xs.length≤cap):K.gx (dS A cap l K.sz) (xs.drop l) U w:=by
 refine ra.of (Kd.drop h.rc hl) fun a e h0=>?_
 obtain ⟨b,hb,he⟩:=H7 e
 rw [← he]
 refine h.blocks ?_ hb
 rw [K.size] at h0⊢
 rw [cL] at h0
 exact dY h0 (dC _ (Nat.sub_le _ _))
def Kd.ZF {α:Type} {K:Kd α} {A:OA} {l:Nat} {xs:List α} (h:K.gx A xs U w):K.gx A (xs.take l) U w:=by
 refine ra.of (Kd.take h.rc) fun a e h0=>h.blocks ?_ e
 rw [K.size] at h0⊢
 rw [b0] at h0
 exact dY h0 (dC _ (Nat.min_le_right _ _))
def hO (P:Program) (f:FuncId) (args:Array Value) (jx:(Nat→Prop)→World→Prop) (C:List aM) (R:Value→List aM→Prop):Prop:=
 ∀U w,jx U w→SS U w w C→Calls P f args w fun e w'=> ∃v,e=.returned v∧ ∃C',R v C'∧SS U w w' C'
structure SF (U:Nat→Prop) (w0 w:World) (F:Nat→Prop) (rest:List aM):Prop where
 ch:Ch U w0 w
 sub: ∀b,F b→U b∨w0.heap.size≤b
 own: ∃G,(aM.all rest).H G w∧ ∀b,G b→F b→False
def yZ {A:aM}: ∀ {l:List aM} {i:Nat},l[i]? =some A→ ∀ {F:Nat→Prop} {w:World},(aM.all l).H F w→ ∃F',A.H F' w∧ ∀b,F' b→F b
 | [],_,h,_,_,_=>by simp at h
 |B::l,0,h,F,w,hF=>by
  simp only [gQ,a9] at h
  subst h
  obtain ⟨F1,F2,h1,_,h3,_⟩:=hF
  exact ⟨F1,h3,fun b hb=>(h1 b).2 (.inl hb)⟩
 |B::l,i+1,h,F,w,hF=>by
  obtain ⟨F1,F2,h1,_,_,h4⟩:=hF
  obtain ⟨F',h5,h6⟩:=yZ (i:=i) TF h4
  exact ⟨F',h5,fun b hb=>(h1 b).2 (.inr (h6 b hb))⟩
def SF.get {F:Nat→Prop} {rest:List aM} (h:SF U w0 w F rest) {q:Nat} {A:aM} (e:rest[q]? =some A): ∃G,A.H G w∧ ∀b,G b→ ¬F b:=by
 obtain ⟨G,hG,hd⟩:=h.own
 obtain ⟨F',h1,h2⟩:=yZ e hG
 exact ⟨F',h1,fun b hb hf=>hd b (h2 b hb) hf⟩
def SF.aE {F:Nat→Prop} {rest:List aM} (h:SF U w0 w F rest) {A:OA} {cs:List Value} (hr:ra A cs U w0):ra A cs F w:=fun j v hj=>by
 obtain ⟨a,e,h1,h2⟩:=hr j v hj
 refine ⟨a,e,h.ch.cell h1 (by rw [oJ];exact h2),fun hf=>?_⟩
 have hb:=World.block_lt_of_cell? w0 _ h1
 rw [oJ] at hb
 rcases h.sub _ hf with h3|h3
 ·exact h2 h3
 ·omega
def Row.rcU {e:TypeId} {sz m c:Nat} {A:OA} {cs:List Value} {F:Nat→Prop} (h:(Row e sz (.slice A m c) m cs).P w) (hf: ∀b,(Row e sz (.slice A m c) m cs).F b→ ¬F b):ra A cs F w:=
 ra.of (Row.rc h) fun a e h0=>hf _ (by subst e;rfl)
def SF.rowAt {F:Nat→Prop} {rest:List aM} {α:Type} {K:Kd α} (h:SF U w0 w F rest) (q:Nat) (A:OA) (c:Nat) (xs:List α) (e:rest[q]? =some (K.row A c xs)):K.gx A xs F w:=by
 obtain ⟨G,⟨h1,h2⟩,h3⟩:=h.get e
 exact Row.rcU h2 fun b hb=>h3 b ((h1 b).2 hb)
def SF._Z {F:Nat→Prop} {rest:List aM} (h:SF U w0 w F rest) (q g:Nat) (t:TypeId) (cs:List Value) (e:rest[q]? =some (bJ g t cs)):ra (some ⟨g,0,none⟩) cs F w:=by
 obtain ⟨G,⟨h1,h2⟩,h3⟩:=h.get e
 exact ra.of (fun j v hj=>⟨_,rfl,pH.news h2 j v hj⟩) fun a e _=>by cases e;exact h3 _ ((h1 _).2 rfl)
def SF.F8 {F:Nat→Prop} {H:List HB} {α:Type} {K:Kd α} (h:SF U w0 w F (H.map HB.gf)) (q:Nat) (A:OA) (c:Nat) (xs:List α) (e:(dR H.length [q],pk H [q])=(true,[K.row A c xs])):K.gx A xs F w:=by
 simp only [bI] at e
 exact h.rowAt q A c xs (SH.gf e.1 e.2)
def SF.fcB {F:Nat→Prop} {H:List HB} (h:SF U w0 w F (H.map HB.gf)) (q g:Nat) (t:TypeId) (cs:List Value) (e:(dR H.length [q],pk H [q])=(true,[bJ g t cs])):ra (some ⟨g,0,none⟩) cs F w:=by
 simp only [bI] at e
 exact h._Z q g t cs (SH.gf e.1 e.2)
def SS.aho {C K:List aM} (h:SS U w0 w (C++K)): ∃F,SS F w w C∧SF U w0 w F K∧ ∀w' H',SS F w w' H'→SS U w0 w' (H'++K):=by
 obtain ⟨F0,hF,hf⟩:=h.own
 obtain ⟨F1,F2,h1,h2,h3,h4⟩:=aM.all_append C K F0 w hF
 refine ⟨F1,⟨Ch.refl _ _,F1,h3,fun b hb=>⟨(hf b ((h1 b).2 (.inl hb))).1,.inl hb⟩⟩,⟨h.ch,fun b hb=>(hf b ((h1 b).2 (.inl hb))).2,F2,h4,fun b x y=>h2 b y x⟩,fun w' H' h'=>?_⟩
 exact qbj
def FH {f:FuncId} {jx:(Nat→Prop)→World→Prop} {C K:List aM} {R:Value→List aM→Prop} {Post:Value→World→Prop} {ops:Array Oper} {L:Env} (x:Op×TypeId) (args:Array Value) (hx:ef ops L i=some x) (hr:bc P (ex L x)=some (.enter f args))
 (hc:hO P f args jx C R) (hp: ∀F,SF U w0 w F K→jx F w) (hS:SS U w0 w (C++K)) (h: ∀v C' w',R v C'→SS U w0 w' (C'++K)→Post v w'):One P n ops Q i L w Post:=by
 obtain ⟨F,h1,h2,h3⟩:=hS.aho
 exact zV hx hr (hc F w (hp F h2) h1) fun _ w' ⟨v,he,C',hR,hs⟩=>⟨v,he,h v C' w' hR (h3 w' _ hs)⟩
def bD {f:FuncId} {args:Array Value} {jx:(Nat→Prop)→World→Prop} {C:List aM} {R:Value→List aM→Prop} (ct:hO P f args jx C R) (tk:List Nat) (hp: ∀w F,SF U w0 w F ((Xs s.H tk).map HB.gf)→jx F w) (k: ∀v C',R v C'→G P n U w0 Q (s.dT v (gv s.H tk (C'.map .k)))) (h:(s.call P,s.vu n,dR s.H.length tk,pk s.H tk)=(some (f,args),true,true,C):=by kernel_rfl):G P n U w0 Q s:=by
 simp only [bI] at h
 obtain ⟨hr,hd,hk,hC⟩:=h
 subst hC
 refine iS hd fun w hS ops Q' i hx=>?_
 unfold S.call at hr
 cases hc:s.cur with
 |none=>rw [hc] at hr;cases hr
 |some x=>
  rw [hc] at hr hx
  simp only at hr
  cases zO:bc P (ex s.L x) with
  |none=>rw [zO] at hr;cases hr
  |some y=>
   rw [zO] at hr
   cases y with
   |enter f' tA=>
    simp only [a9,bI] at hr
    obtain ⟨rfl,rfl⟩:=hr
    refine FH x tA hx zO ct (hp w) (hS.fS hk) fun v C' w' hR hs=>qmb
   |_=>cases hr
def SF.front {F:Nat→Prop} {Y K:List aM} (h:SF U w0 w F (Y++K)):SF U w0 w F Y:=by
 obtain ⟨h1,h2,G,h3,h4⟩:=h
 obtain ⟨F1,F2,h5,_,h6,_⟩:=aM.all_append Y K G w h3
 exact ⟨h1,h2,F1,h6,fun b hb=>h4 b ((h5 b).2 (.inl hb))⟩
def SF.XS {F:Nat→Prop} {Y:List aM} {α:Type} {K:Kd α} (h:SF U w0 w F Y) (q:Nat) (A:OA) (c:Nat) (xs:List α) (e:Y[q]? =some (K.row A c xs)):K.gx A xs F w:=h.rowAt q A c xs e
def fJ {f:FuncId} {args:(Nat→Value)→Array Value} {jx:(Nat→Value)→(Nat→Prop)→World→Prop} {C:(Nat→Value)→List aM} {R:(Nat→Value)→Value→List aM→Prop} (ct: ∀vs,hO P f (args vs) (jx vs) (C vs) (R vs)) (tk:List Nat) (v:(Nat→Value)→Value) (gv:List ((Nat→Value)→HB)) (hp: ∀vs w F,SF U w0 w F (s.vA P n ez hs i vs)→jx vs F w) (hR: ∀vs u C',R vs u C'→u=v (ik vs i u)∧C'=gv.map fun a=>(a (ik vs i u)).gf) (h: ∀vs,(s.ox P n ez hs i vs (wx P),(s.D P n ez hs vs).jh tk)=(some (f,args vs),C vs):=by intro _;kernel_rfl):ke P n U w0 s ez hs i ⟨tk,v,gv⟩:=by
 refine ⟨fun vs Q' w K hS=>?_⟩
 have hh:=h vs
 simp only [bI] at hh
 obtain ⟨h1,h2⟩:=hh
 obtain ⟨x,hx,h1⟩:=S.dU h1
 simp only at hS
 rw [h2] at hS
 unfold wx at h1
 split at h1
 ·rename_i f' tA hr
  simp only [a9,bI] at h1
  obtain ⟨rfl,rfl⟩:=h1
  exact FH x _ hx hr (ct vs) (fun F hF=>hp vs w F hF.front) hS fun u C' w' hr' hN=>by
   exact qly
 ·cases h1
def kz {f:FuncId} {fn:Func} {args:List Value} (C:List HB) {jx:(Nat→Prop)→World→Prop} {R:Value→List aM→Prop} (hf:P.funcs[f]? =some fn)
 (h: ∀U w0,jx U w0→G P fn.ntmps U w0 (rV P fn U w0 R) ⟨l6 0 args,C,[.c (fn.body.getD .skip)]⟩) (hb:fn.body.isSome=true:=by rfl) (hn:Nat.ble args.length fn.ntmps=true:=by rfl):hO P f args.toArray jx (C.map HB.gf) R:=by
 obtain ⟨c,hc⟩:=Option.isSome_iff_exists.1 hb
 intro U w hp hS
 refine uK hf hc hn fun a ha=>?_
 exact qnw
end Go.bE
namespace Go.bE
variable {P:Program} {n:Nat} {U:Nat→Prop} {w0:World} {s:S} {ez:Ez} {hs:List Nat} {i:Nat}
def qp (m:Nat) (A:OA) (len cap l h sz:Nat) (lv hv:Option Value) (em:h-l=m) (hl:qn lv 0 l) (h2: ∀vs w,SE U w0 w [] (s.vA P n ez hs i vs)→h≤cap) (e: ∀vs,s.ox P n ez hs i vs (WW P)=some (A,len,cap,sz,lv,hv):=by intro _;kernel_rfl) (hh:qn hv len h:=by rfl) (h1:l≤h:=by omega):ke P n U w0 s ez hs i ⟨[],fun _=>.slice (dS A cap l sz) m (cap-l),[]⟩:=by
 subst em
 exact lT (e:=e) (hh:=fun _=>hh) (fun _=>A) (fun _=>len) (fun _=>cap) (fun _=>l) (fun _=>h) sz (fun _=>lv) (fun _=>hv) (fun _=>hl) (fun _=>h1) h2
end Go.bE
namespace Go.bE
open Go.RowKit
section
variable {P:Program} {n:Nat} {U:Nat→Prop} {w0 w:World} {Q:Exit→Act→World→Prop} {s:S}
def S.Mx (s:S):Code:=match s.ks with|.c (.loop b)::_=>b|_=>.skip
def S.Mz (s:S):List Kt:=match s.ks with|.c (.loop _)::ks=>ks|_=> []
def aF (b:Code) (ks:List Kt):Nat→List Kt
 |0=>.i (fun _ _=>False)::ks
 |n+1=>.c b::aF b ks n
def zb {b:Code} {ks:List Kt}: ∀ {m:Nat} {e:Exit} {a:Act} {w:World},DK P Q (aF b ks m) e a w→(e=.normal→Code.rounds P b (DK P Q ks) m a w)∧(e≠.normal→DK P Q ks e a w)
 |0,e,a,w,h=>by
  refine ⟨fun he=>by subst he;exact h,fun he=>?_⟩
  exact qqe
 |m+1,e,a,w,h=>by
  refine ⟨fun he=>?_,fun he=>?_⟩
  ·subst he
   have h':b.wp P (DK P Q (aF b ks m)) a w:=h
   show b.wp P (Exit.then (Code.rounds P b (DK P Q ks) m) (DK P Q ks)) a w
   refine wp_mono h' fun e2 a2 w2 h2=>?_
   have h3:=zb h2
   cases e2 with
   |normal=>exact h3.1 rfl
   |_=>exact h3.2 (by simp)
  ·have h':DK P Q (aF b ks m) e a w:=by
    exact qqe
   exact (zb h').2 he
def iH (m:Nat) (k:G P n U w0 Q ⟨s.L,s.H,aF s.Mx s.Mz m⟩) (h:s.yU=true:=by kernel_rfl):G P n U w0 Q s:=by
 refine ⟨fun w hS a ha=>?_⟩
 obtain ⟨L,H,ks⟩:=s
 unfold S.yU at h
 split at h
 ·rename_i b mW lq
  simp only at lq
  subst lq
  have h1:=(zb (k.go w hS a ha)).1 rfl
  exact wp_loop_rounds m h1
 ·cases h
end
