/- For the law of worlds: The engine. -/
import Derived.Test.YtfookmefmjhonaaGreatZ08
set_option linter.all false
namespace Go.bE
open Go.RowKit
section
variable {P:Program} {n:Nat} {U:Nat→Prop} {w0 w:World} {Q:Exit→Act→World→Prop} {s:S}
abbrev Kd.V {α:Type} (K:Kd α) (x:α):Value:=.agg (K.f x).toArray
def XC (L:Env):Op×TypeId→Option (BinOp×IntKind×Int×Int)
 |(.binOp .shl _ x y _,_)=>match L.ev x,L.ev y with
  |.int k a,.int _ b=>some (.shl,k,a,b)
  |_,_=>none
 |(.binOp .shr _ x y _,_)=>match L.ev x,L.ev y with
  |.int k a,.int _ b=>some (.shr,k,a,b)
  |_,_=>none
 |(.binOp .quo _ x y _,_)=>match L.ev x,L.ev y with
  |.int k a,.int k' b=>bif decide (k=k') then some (.quo,k,a,b) else none
  |_,_=>none
 |(.binOp .rem _ x y _,_)=>match L.ev x,L.ev y with
  |.int k a,.int k' b=>bif decide (k=k') then some (.rem,k,a,b) else none
  |_,_=>none
 |_=>none
def NW:BinOp→IntKind→Int→Int→Int
 |.shl,k,a,b=>k.wrap (a*2^min b.toNat k.bits)
 |.shr,k,a,b=>a.fdiv (2^min b.toNat k.bits)
 |.quo,k,a,b=>k.wrap (a.tdiv b)
 |_,_,a,b=>a.tmod b
def k6:BinOp→Int→Prop
 |.shl,b=>0≤b
 |.shr,b=>0≤b
 |_,b=>b≠0
def CD {o:BinOp} {k:IntKind} {a b:Int} {x:Op×TypeId} {L:Env} {ops:Array Oper} {i:Nat} (hx:ef ops L i=some x) (h:XC L x=some (o,k,a,b)) (hb:k6 o b) {Post:Value→World→Prop} (hp:Post (.int k (NW o k a b)) w):One P n ops Q i L w Post:=by
 unfold XC at h
 split at h
 ·split at h
  ·rename_i t x y _ _ _ _ _ _ _ _ h1 h2
   exact qf2
  ·cases h
 ·split at h
  ·rename_i t x y _ _ _ _ _ _ _ _ h1 h2
   exact qf2
  ·cases h
 ·split at h
  ·rename_i t x y _ _ _ _ k1 _ k2 _ h1 h2
   exact qc5
  ·cases h
 ·split at h
  ·rename_i t x y _ _ _ _ k1 _ k2 _ h1 h2
   exact qc5
  ·cases h
 ·cases h
def FU (o:BinOp) (k:IntKind) (a b v:Int) (hb:k6 o b) (e:NW o k a b=v) (g:G P n U w0 Q (s.dT (.int k v) s.H)) (h:(s.nx XC,s.vu n)=(some (o,k,a,b),true):=by kernel_rfl):G P n U w0 Q s:=by
 subst e
 simp only [bI] at h
 obtain ⟨h1,h2⟩:=h
 obtain ⟨x,hc,h1⟩:=S.fU h1
 exact iS h2 fun w hS ops Q' i hx=>CD (hx.trans hc) h1 hb ⟨_,hS,g⟩
def NX {V:List Value} {i:Nat} (o:BinOp) (k:IntKind) (a b v:Int) (hb:k6 o b) (e:NW o k a b=v) (h:s.qx V i XC=some (o,k,a,b):=by kernel_rfl):vw P n U w0 s V i (.int k v):=by
 subst e
 obtain ⟨x,hx,h1⟩:=S.dU h
 exact ⟨fun Q' w K hS=>CD hx h1 hb ⟨rfl,hS⟩⟩
def Rc.loc {A:OA} {cs:List Value} {w w':World} (h:Rc A cs w) (hb: ∀a,A=some a→w'.heap[a.block]? =w.heap[a.block]?):Rc A cs w':=fun j v hj=>by
 obtain ⟨a,e,ha⟩:=h j v hj
 refine ⟨a,e,?_⟩
 rw [← ha]
 refine World.cell?_of_block ?_
 have:(a.add j).block=a.block:=by unfold Addr.add;split<;>rfl
 rw [this]
 exact hb a e
def rcA (A:OA) (cs:List Value):aM:=⟨fun F w=>(∀b,F b↔ ∃a,A=some a∧a.block=b)∧Rc A cs w,fun F w w' h hp=>⟨hp.1,hp.2.loc fun a ha=>h _ ((hp.1 _).2 ⟨a,ha,rfl⟩)⟩⟩
abbrev Kd.rr {α:Type} (K:Kd α) (A:OA) (xs:List α):aM:=rcA A (xs.flatMap K.f)
def SH.rcA {α:Type} {K:Kd α} {H:List HB} (h:SH U w0 w H) (i:Nat) (A:OA) (xs:List α) (hi:(dR H.length [i],pk H [i])=(true,[K.rr A xs])):K.Rd A xs w:=by
 simp only [bI] at hi
 exact h.get (SH.gf hi.1 hi.2) fun _ x=>x.2
def Re (P:Program) (L:Env):Op×TypeId→Option (Value×TypeDesc×TypeDesc)
 |(.convert t t2 x,_)=>match P.underlying t,P.underlying t2 with
  |some a,some b=>some (L.ev x,a,b)
  |_,_=>none
 |_=>none
def En {α:Type} {f:α→List Value} {g:α→Value} (h: ∀x,f x= [g x]): ∀xs:List α,xs.flatMap f=xs.map g
 | []=>rfl
 |x::xs=>by rw [iE,h,En h xs];rfl
def mG {α:Type} (P:Program) (K:Kd α) (f:α→UInt8):Prop:=P.underlying K.e=some (.int .u8)∧ ∀x,K.f x= [.int .u8 ((f x).toNat:Int)]
def NY {α:Type} (K:Kd α) {z:ByteArray} {xs:List α} {f:α→UInt8} {x:Op×TypeId} {L:Env} {ops:Array Oper} {i:Nat} {H:List aM} (hx:ef ops L i=some x) (h:Re P L x=some (.string z,.string,.slice K.e)) (hk:mG P K f) (hz:xs.map f=z.data.toList) (hS:SS U w0 w H)
 {Post:Value→World→Prop} (hp: ∀a c w',SS U w0 w' (K.rr (some a) xs::H)→z.size≤c→Post (.slice (some a) z.size c) w'):One P n ops Q i L w Post:=by
 unfold Re at h
 split at h
 ·rename_i t t2 x ty
  split at h
  ·rename_i a b h1 h2
   simp only [a9,bI] at h
   obtain ⟨h3,rfl,rfl⟩:=h
   have hr:=Go.Lib.run_convert_string_bytes (P:=P) w t t2 K.e z h1 h2 hk.1
   refine cY hx (v:=.slice (some ⟨w.heap.size,0,none⟩) z.size (grownCap w z.size 0 K.e)) (w':=Go.Lib.bytesWorld w K.e z) ?_ (hp _ _ _ ?_ (grownCap_ge w z.size 0 K.e))
   ·simp only [ex,execOp,h3]
    simp [hr]
   ·have r5:Ch No w (Go.Lib.bytesWorld w K.e z):=by
     refine ⟨?_,?_,?_,by rw [Go.Lib.bytesWorld_size];omega,fun b hb _=>Go.Lib.bytesWorld_at_old w _ _ b hb,by simp [Go.Lib.bytesWorld,World.freeze,World.alloc,World.drew,-World.alloc_eq,-World.drew_eq]⟩
     ·exact qf1
     ·exact qf1
     ·exact qf1
    have hrc:K.Rd (some ⟨w.heap.size,0,none⟩) xs (Go.Lib.bytesWorld w K.e z):=fun j v hj=>by
     refine ⟨_,rfl,?_⟩
     have hlen:xs.length=z.size:=by
      have:=congrArg List.length hz
      exact Rf
     have e:xs.flatMap K.f=z.data.toList.map fun b=>Value.int .u8 (b.toNat:Int):=by
      rw [← hz,List.map_map];exact En hk.2 xs
     rw [e,fk] at hj
     cases hg:z.data.toList[j]?with
     |none=>rw [hg] at hj;cases hj
     |some b=>
      rw [hg] at hj
      simp only [Option.map_some,a9] at hj
      have NZ:j<z.size:=by have:=(aN.1 hg).1;simpa using this
      rw [zP,Go.Lib.bytesWorld_cell w K.e z j NZ,← hj,bA,hg]
      rfl
    have FV:SS No w (Go.Lib.bytesWorld w K.e z) [K.rr (some ⟨w.heap.size,0,none⟩) xs]:=⟨r5,fun b=>b=w.heap.size,⟨fun b=>b=w.heap.size,fun _=>False,fun b=>⟨.inl,fun h=>h.elim id False.elim⟩,fun _ _ h=>h,⟨fun b=>⟨fun e=>⟨_,rfl,e.symm⟩,fun ⟨a,h1,h2⟩=>by cases h1;exact h2.symm⟩,hrc⟩,fun _ h=>h⟩,fun b hb=>by subst hb;exact ⟨by rw [Go.Lib.bytesWorld_size];omega,.inr (bO _)⟩⟩
    exact hS.new FV
  ·cases h
 ·cases h
def SH.Eo {H:List HB} {A:aM} (h:SS U w0 w (A::H.map HB.gf)):SH U w0 w (H++ [.k A]):=by
 unfold SH
 rw [cT]
 exact h.perm (List.perm_append_comm (l₁:= [A]))
def Rh {α:Type} (K:Kd α) (z:ByteArray) (xs:List α) (f:α→UInt8) (hk:mG P K f) (hz:xs.map f=z.data.toList) (g: ∀a c,z.size≤c→G P n U w0 Q (s.dT (.slice (some a) z.size c) (s.H++ [.k (K.rr (some a) xs)]))) (h:(s.nx (Re P),s.vu n)=(some (.string z,.string,.slice K.e),true):=by kernel_rfl):G P n U w0 Q s:=by
 simp only [bI] at h
 obtain ⟨h1,h2⟩:=h
 obtain ⟨x,hc,h1⟩:=S.fU h1
 exact iS h2 fun w hS ops Q' i hx=>NY K (hx.trans hc) h1 hk hz hS fun a c w' hw hcc=>⟨_,SH.Eo hw,g a c hcc⟩
def N0 {w:World} {a:Addr} {len cap:Nat} {ns:List UInt8} (hl:ns.length=len) (h:Rc (some a) (ns.map fun b=>Value.int .u8 (b.toNat:Int)) w):(Conv.bytesToString (.slice (some a) len cap)).run P w=.ok (.string ⟨ns.toArray⟩) w:=by
 have h1:=run_loadCells_list (P:=P) w a (ns.map fun b=>Value.int .u8 (b.toNat:Int)) fun j v hj=>h.at hj
 rw [cM,hl] at h1
 have h2:=run_bytesToString (P:=P) w a len cap (ns.map fun b=>(b.toNat:Int)) (by rw [h1,List.map_map];rfl)
 rw [h2]
 have: ∀(l:List UInt8) (r:ByteArray),(l.map fun b=>(b.toNat:Int)).foldl (fun (r:ByteArray) n=>r.push (UInt8.ofNat n.toNat)) r=⟨r.data++l.toArray⟩:=by
  intro l
  induction l with
  |nil=>intro r;simp
  |cons b l ih=>
   intro r
   rw [fm,List.foldl_cons,ih]
   simp [ByteArray.push]
 rw [this]
 congr 3
 simp
def xt {α:Type} (K:Kd α) {A:OA} {m c:Nat} {xs:List α} {f:α→UInt8} {x:Op×TypeId} {L:Env} {ops:Array Oper} {i:Nat} (hx:ef ops L i=some x) (h:Re P L x=some (.slice A m c,.slice K.e,.string)) (hk:mG P K f) (hm:xs.length=m) (hr:K.Rd A xs w)
 {Post:Value→World→Prop} (hp:Post (.string ⟨(xs.map f).toArray⟩) w):One P n ops Q i L w Post:=by
 unfold Re at h
 split at h
 ·rename_i t t2 x ty
  split at h
  ·rename_i a b h1 h2
   simp only [a9,bI] at h
   obtain ⟨h3,rfl,rfl⟩:=h
   refine cY hx (w':=w) ?_ hp
   have e:xs.flatMap K.f=(xs.map f).map fun b=>Value.int .u8 (b.toNat:Int):=by
    rw [List.map_map];exact En hk.2 xs
   have XD:(Conv.bytesToString (.slice A m c)).run P w=.ok (.string ⟨(xs.map f).toArray⟩) w:=by
    cases A with
    |none=>
     have hn:xs= []:=dV.1 (Nat.eq_zero_of_not_pos fun h=>by have:=Kd.cd hr h;cases this)
     subst hn
     simp [Conv.bytesToString,ByteArray.empty,ByteArray.emptyWithCapacity];rfl
    |some a=>exact N0 (by rw [cM,hm]) (by rw [← e];exact hr)
   simp only [ex,execOp,h3]
   simp [convert,run_underlying h1,run_underlying h2,run_underlying hk.1,XD]
  ·cases h
 ·cases h
def wo {α:Type} (K:Kd α) (A:OA) (m c:Nat) (xs:List α) (f:α→UInt8) (hk:mG P K f) (hr: ∀w,SH U w0 w s.H→K.Rd A xs w) (g:G P n U w0 Q (s.dT (.string ⟨(xs.map f).toArray⟩) s.H)) (h:(s.nx (Re P),s.vu n)=(some (.slice A m c,.slice K.e,.string),true):=by kernel_rfl) (hm:xs.length=m:=by rfl):G P n U w0 Q s:=by
 simp only [bI] at h
 obtain ⟨h1,h2⟩:=h
 obtain ⟨x,hc,h1⟩:=S.fU h1
 exact iS h2 fun w hS ops Q' i hx=>xt K (hx.trans hc) h1 hk hm (hr w hS) ⟨_,hS,g⟩
end
section
variable {P:Program} {n:Nat} {U:Nat→Prop} {w0 w:World} {Q:Exit→Act→World→Prop} {s:S}
def gM (z:ByteArray):List Value:=z.data.toList.map fun b=>.int .u8 (b.toNat:Int)
inductive Src (P:Program) (t:TypeId) (z:Value):TypeId→Value→Nat→List Value→World→Prop
 |sl {B:OA} {k c:Nat} {news:List Value} {w:World} (hr:Rc B news w):Src P t z t (.slice B k c) k news w
 |str {t2:TypeId} {x:ByteArray} {w:World} (hu:P.underlying t2=some .string):Src P t z t2 (.string x) x.size (gM x) w
 |zr {t2:TypeId} {kk:IntKind} {k:Nat} {w:World} (hu:P.underlying t2=some (.int kk)):Src P t z t2 (.int .i64 (k:Int)) k (Builtin.zeroCells z.cells k).toList w
def Src.drew {t t2:TypeId} {z y:Value} {k:Nat} {news:List Value} (h:Src P t z t2 y k news w):Src P t z t2 y k news w.drew:=by
 cases h with
 |sl hr=>exact .sl fun j v hj=>by obtain ⟨a,e,h⟩:=hr j v hj;exact ⟨a,e,by simpa using h⟩
 |str hu=>exact .str hu
 |zr hu=>exact .zr hu
def oI {size k c:Nat} {B:OA} {news:List Value} (hl:news.length=k*size) (h:Rc B news w):(Builtin.firstCells size k (.slice B k c)).run P w=.ok news.toArray w:=by
 cases B with
 |none=>
  have:news= []:=dV.1 (Nat.eq_zero_of_not_pos fun h0=>qri)
  subst this
  exact run_firstCells_none w size k k c
 |some b=>exact run_firstCells_some w size k b k c news hl fun j v hj=>h.at hj
def uU {x:ByteArray}:(Builtin.firstCells 1 x.size (.string x)).run P w=.ok (gM x).toArray w:=by
 simp only [Builtin.firstCells,gM]
 have:x.extract 0 x.size=x:=by
  apply ByteArray.ext
  simp
 rw [this]
 have:Array.map (fun b:UInt8=>Value.int .u8 (b.toNat:Int)) x.data=(List.map (fun b:UInt8=>Value.int .u8 (b.toNat:Int)) x.data.toList).toArray:=by apply Array.ext';simp
 simp [this]
def HH {t t2 ty e:TypeId} {i:TypeInfo} {z y:Value} (ht:P.underlying t=some (.slice e)) (hi:P.info? e=some i) (hz:i.zero=some z) {m c k g:Nat} {news:List Value} (hs:Src P t z t2 y k news w) (hl:news.length=k*i.size) (hb:k*i.bytes≤140737488355328) (asV:k≤1073741824) (Qd: ∀x,y=.string x→i.size=1) (kc:m+k≤c)
 {cur:Array Value} {te:TypeId} (hg:w.heap[g]? =some (.cells cur te (0,0))) (hc:m*i.size+news.length≤cur.size) (h1: ∀v∈news,v.oneCell'=true):
 (Builtin.append_ #[t,t2] ty #[.slice (some ⟨g,0,none⟩) m c,y]).run P w=.ok (.slice (some ⟨g,0,none⟩) (m+k) c) (w.setRow g (cur.toList.take (m*i.size)++news++cur.toList.drop (m*i.size+news.length)).toArray):=by
 have ji:=run_storeCells_at P g (m*i.size) te news 0 cur w hg qse h1
 simp only [Nat.add_zero] at ji
 have ha:(⟨g,0,none⟩:Addr).add (m*i.size)=⟨g,m*i.size,none⟩:=zP _ _
 cases hs with
 |sl hr=>
  rename_i B c'
  have hf:=oI (P:=P) (size:=i.size) (k:=k) (c:=c') hl hr
  exact qj7
 |str hu=>
  rename_i x
  have hf:=uU (P:=P) (w:=w) (x:=x)
  rw [← Qd x rfl] at hf
  simp [Builtin.append_,run_underlying ht,run_underlying hu,sizeOf,typeInfo,hi,Builtin.lenOf,kc,hf,ha,ji]
 |zr hu=>
  have hw:IntKind.i64.wrap (k:Int)=k:=wrap_i64 ⟨by omega,by omega⟩
  have h2: ¬ ((k:Int)<0):=by omega
  have h3: ¬ (281474976710656<(k:Int)*(i.bytes:Int)):=by
   exact qj5
  by_cases h0:k*i.size=0
  ·have hn:(Builtin.zeroCells z.cells k).toList= []:=dV.1 (by rw [hl,h0])
   have hn':Builtin.zeroCells z.cells k= #[]:=by rw [← Array.toList_eq_nil_iff];exact hn
   rw [hn] at ji
   simp [Builtin.append_,run_underlying ht,run_underlying hu,sizeOf,typeInfo,zeroValue,hi,hz,asInt,asIntOf,kc,hw,h2,h3,h0,ha,ji,hn']
  ·simp [Builtin.append_,run_underlying ht,run_underlying hu,sizeOf,typeInfo,zeroValue,hi,hz,asInt,asIntOf,kc,hw,h2,h3,h0,ha,ji]
def uH {t t2 ty e:TypeId} {i:TypeInfo} {z y:Value} (ht:P.underlying t=some (.slice e)) (hi:P.info? e=some i) (hz:i.zero=some z) {A:OA} {m c k:Nat} {news olds:List Value} (hs:Src P t z t2 y k news w) (hl:news.length=k*i.size) (vh:olds.length=m*i.size) (ho:Rc A olds w) (hb:(m+k)*i.bytes≤140737488355328) (Iw:m+k≤1073741824) (Qd: ∀x,y=.string x→i.size=1) (kc:c<m+k):
 (Builtin.append_ #[t,t2] ty #[.slice A m c,y]).run P w=.ok (.slice (some ⟨w.heap.size,0,none⟩) (m+k) (grownCap w (m+k) c e)) (w.drew.alloc (.cells (olds.toArray++news.toArray++Builtin.zeroCells z.cells (grownCap w (m+k) c e- (m+k))) e)):=by
 have hn: ¬ (m+k≤c):=by omega
 have Qe: ¬ (9223372036854775807<((m:Int)+(k:Int))):=by omega
 have ap6:=growslice_fits (need:=m+k) (old:=c) kc hb
 have Qf: ¬ (281474976710656<Builtin.nextslicecap (m+k) c*i.bytes):=by omega
 have Sx:=oI (P:=P) (w:=w.drew) (size:=i.size) (k:=m) (c:=c) vh (fun j v hj=>by obtain ⟨a,e,h⟩:=ho j v hj;exact ⟨a,e,by simpa using h⟩:Rc A olds w.drew)
 have hN:=hs.drew
 have hkb:k*i.bytes≤140737488355328:=eF (dC _ (Nat.le_add_left _ _)) hb
 cases hN with
 |sl hr=>
  rename_i B c'
  have hf:=oI (P:=P) (size:=i.size) (k:=k) (c:=c') hl hr
  simp [Builtin.append_,run_underlying ht,sizeOf,typeInfo,zeroValue,hi,hz,Builtin.lenOf,hn,Qe,Qf,Question.forced,hf,Sx,newRow,grownCap]
  congr 2
  apply Array.ext'
  simp [cH]
 |str hu=>
  rename_i x
  have hf:=uU (P:=P) (w:=w.drew) (x:=x)
  rw [← Qd x rfl] at hf
  simp [Builtin.append_,run_underlying ht,run_underlying hu,sizeOf,typeInfo,zeroValue,hi,hz,Builtin.lenOf,hn,Qe,Qf,Question.forced,hf,Sx,newRow,grownCap]
  congr 2
  apply Array.ext'
  simp [cH]
 |zr hu=>
  have hw:IntKind.i64.wrap (k:Int)=k:=wrap_i64 ⟨by omega,by omega⟩
  have h2: ¬ ((k:Int)<0):=by omega
  have h3: ¬ (281474976710656<(k:Int)*(i.bytes:Int)):=by
   exact qj5
  by_cases h0:k*i.size=0
  ·have hn0:(Builtin.zeroCells z.cells k).toList= []:=dV.1 (by rw [hl,h0])
   have hn':Builtin.zeroCells z.cells k= #[]:=by rw [← Array.toList_eq_nil_iff];exact hn0
   simp [Builtin.append_,run_underlying ht,run_underlying hu,sizeOf,typeInfo,zeroValue,hi,hz,asInt,asIntOf,hw,h2,h3,h0,hn,Qe,Qf,Question.forced,Sx,newRow,grownCap,hn']
  ·simp [Builtin.append_,run_underlying ht,run_underlying hu,sizeOf,typeInfo,zeroValue,hi,hz,asInt,asIntOf,hw,h2,h3,h0,hn,Qe,Qf,Question.forced,Sx,newRow,grownCap]
inductive vJ {α:Type} (P:Program) (K:Kd α) (t:TypeId):TypeId→Value→List α→World→Prop
 |sl {B:OA} {k c:Nat} {ys:List α} {w:World} (hk:ys.length=k) (hr:K.Rd B ys w):vJ P K t t (.slice B k c) ys w
 |str {t2:TypeId} {x:ByteArray} {ys:List α} {w:World} (hu:P.underlying t2=some .string) (h1:K.sz=1) (hy:ys.flatMap K.f=gM x):vJ P K t t2 (.string x) ys w
 |zr {t2:TypeId} {kk:IntKind} {k:Nat} {x0:α} {w:World} (hu:P.underlying t2=some (.int kk)) (hz:((P.info? K.e).bind (·.zero)).map (·.cells.toList)=some (K.f x0)):vJ P K t t2 (.int .i64 (k:Int)) (List.replicate k x0) w
def lO {c:List Value} (k:Nat) (z:Array Value) (hz:z.toList=c) (h0:0<c.length):(Builtin.zeroCells z k).toList=(List.replicate k c).flatten:=by
 have pq:z.size=c.length:=by rw [← hz,Array.length_toList]
 apply List.ext_getElem
 ·simp [Builtin.zeroCells,pq]
 ·intro j h1 h2
  simp only [Builtin.zeroCells,Array.toList_map,Array.toList_range,List.getElem_map,List.getElem_range]
  have hj:j<k*c.length:=by simpa [Builtin.zeroCells,pq] using h1
  have hm:j % z.size<z.size:=Nat.mod_lt _ (by omega)
  rw [getElem!_pos z _ hm]
  clear h1
  induction k generalizing j with
  |zero=>simp at hj
  |succ k ih=>
   simp only [List.replicate_succ,List.flatten_cons]
   rw [List.getElem_append]
   split
   ·rename_i h
    have:j % z.size=j:=Nat.mod_eq_of_lt (by omega)
    simp only [this,← hz,Array.getElem_toList]
   ·rename_i h
    have pQ:j-c.length<k*c.length:=by rw [Nat.succ_mul] at hj;omega
    have:=ih (j-c.length) (by simpa using pQ) pQ (Nat.mod_lt _ (by omega))
    rw [← this]
    congr 1
    rw [pq]
    have:j=(j-c.length)+c.length:=by omega
    conv=>lhs;rw [this,Nat.add_mod_right]
def r8 {α:Type} (f:α→List Value) (k:Nat) (x:α):(List.replicate k x).flatMap f=(List.replicate k (f x)).flatten:=by
 rw [List.flatMap_def,List.map_replicate]
def vJ.src {α:Type} {K:Kd α} {t t2:TypeId} {y:Value} {ys:List α} {i:TypeInfo} {z:Value} (h:vJ P K t t2 y ys w) (hi:P.info? K.e=some i) (hz:i.zero=some z):Src P t z t2 y ys.length (ys.flatMap K.f) w∧ ∀x,y=.string x→K.sz=1:=by
 cases h with
 |sl hk hr=>subst hk;exact ⟨.sl hr,fun x h=>by cases h⟩
 |str hu h1 hy=>
  rename_i x
  have:ys.length=x.size:=by
   have:=congrArg List.length hy
   rw [K.size,h1] at this
   simpa [gM] using this
  rw [hy,this]
  exact ⟨.str hu,fun _ _=>h1⟩
 |zr hu wu=>
  rename_i kk k x0
  rw [hi] at wu
  simp only [Option.bind_some,hz,Option.map_some,a9] at wu
  rw [eA,r8,← lO k z.cells wu (by rw [K.len];exact K.pos)]
  exact ⟨.zr hu,fun x h=>by cases h⟩
def Dp (P:Program) (L:Env):Op×TypeId→Option (TypeId×TypeId×TypeId×Value×Value)
 |(.call ⟨.builtin .append,args,ts⟩,_)=>match args.toList,ts.toList with
  | [x,y],[t,t2]=>match P.underlying t with
   |some (.slice e)=>some (t,t2,e,L.ev x,L.ev y)
   |_=>none
  |_,_=>none
 |_=>none
def Kd.Sm {α:Type} (K:Kd α) {xs:List α} {m:Nat} (hm:m≤xs.length):(xs.flatMap K.f).take (m*K.sz)=(xs.take m).flatMap K.f:=by
 rcases Nat.lt_or_ge m xs.length with h1|h1
 ·exact qk9
 ·have:m=xs.length:=Nat.le_antisymm hm h1
  subst this
  rw [List.take_length,← K.size,List.take_length]
def Row.set {e:TypeId} {sz m c g:Nat} {cs:List Value} {w:World} (h:(Row e sz (.slice (some ⟨g,0,none⟩) m c) m cs).P w): ∃cur,w.heap[g]? =some (.cells cur e (0,0))∧m≤c∧c≤maxLen∧cur.size=c*sz∧cur.toList.take (m*sz)=cs:=by
 obtain ⟨_,⟨h2,_⟩|⟨g',cap,cur,h2,_,h3,h4,h5,h6,h7⟩⟩:=h
 ·cases h2
 ·injection h2 with h2 _ h8
  injection h2 with h2
  injection h2 with h2
  subst h2
  subst h8
  exact ⟨cur,h3,h4,h5,h6,h7⟩
def yW {e:TypeId} {sz m m2 c g:Nat} {cs wL:List Value} {cur cur2:Array Value} {H:List aM} {i:Nat} (hS:SS U w0 w H) (hi:H[i]? =some (row e sz (.slice (some ⟨g,0,none⟩) m c) m cs)) (hg:w.heap[g]? =some (.cells cur e (0,0))) (h5:c≤maxLen) (pq:cur2.size=c*sz) (hl:wL.length=m2*sz) (hm:m2≤c) (ht:cur2.toList.take (m2*sz)=wL):
 SS U w0 (w.setRow g cur2) (H.set i (row e sz (.slice (some ⟨g,0,none⟩) m2 c) m2 wL)):=by
 obtain ⟨F,h1,h2⟩:=hS.J7 hi
 refine h2 _ (Row e sz (.slice (some ⟨g,0,none⟩) m2 c) m2 wL) ?_
 have r5:Ch (Row e sz (.slice (some ⟨g,0,none⟩) m c) m cs).F w (w.setRow g cur2):=⟨rfl,rfl,rfl,by simp [World.setRow],fun k hk hn=>setRow_other w g k cur2 fun e=>hn (by subst e;rfl),bO _⟩
 have l8:g<w.heap.size:=(Array.getElem?_eq_some_iff.1 hg).1
 have:=h1.upd (i:=0) rfl r5 (Row e sz (.slice (some ⟨g,0,none⟩) m2 c) m2 wL) ⟨hl,.inr ⟨g,c,cur2,rfl,bh _,setRow_heap w g _ _ e _ hg,hm,h5,pq,ht⟩⟩ fun b hb=>.inl hb
 exact this
end
section
variable {P:Program} {n:Nat} {U:Nat→Prop} {w0 w:World} {Q:Exit→Act→World→Prop} {s:S}
def spliced {cur news:List Value} {m:Nat} (hm:m+news.length≤cur.length):(cur.take m++news++cur.drop (m+news.length)).length=cur.length∧(cur.take m++news++cur.drop (m+news.length)).take (m+news.length)=cur.take m++news:=by
 have h1:(cur.take m).length=m:=by rw [b0];omega
 refine ⟨by simp only [bm,h1,cL];omega,?_⟩
 have h2:(cur.take m++news).length=m+news.length:=by rw [bm,h1]
 rw [nS (by omega),cA (by omega)]
def KA {α:Type} (K:Kd α) {xs ys:List α} {A:OA} {c m i' i:Nat} {t t2:TypeId} {y:Value} {H:List aM} {z:Op×TypeId} {L:Env} {ops:Array Oper} (hx:ef ops L i=some z) (h:Dp P L z=some (t,t2,K.e,.slice A m c,y)) (mL:fK P K.e K.sz=true)
 (hS:SS U w0 w H) (hi:H[i']? =some (K.row A c xs)) (hm:m≤xs.length) (hs:vJ P K t t2 y ys w) (kc:m+ys.length≤c) (hb:m+ys.length≤1073741824) (hA:A.isSome=true)
 {Post:Value→World→Prop} (hp: ∀w',SS U w0 w' (H.set i' (K.row A c (xs.take m++ys)))→Post (.slice A (m+ys.length) c) w'):One P n ops Q i L w Post:=by
 obtain ⟨inf,zv,ri,pI,vi,Jh,Ip⟩:=gE mL
 obtain ⟨UZ,U0⟩:=hs.src ri pI
 unfold Dp at h
 split at h
 ·rename_i args ts ty
  split at h
  ·rename_i x y' t' t2' e1 e2
   have e1:=kq e1
   have e2:=kq e2
   subst e1
   subst e2
   split at h
   ·rename_i e hu
    simp only [a9,bI] at h
    obtain ⟨rfl,rfl,rfl,ha,hy⟩:=h
    obtain ⟨a,rfl⟩:=Option.isSome_iff_exists.1 hA
    have oM:=hS.tP hi
    obtain ⟨g,rfl⟩: ∃g,a=⟨g,0,none⟩:=by
     obtain ⟨_,⟨h2,_⟩|⟨g',cap,cur,h2,_⟩⟩:=oM
     ·cases h2
     ·injection h2 with h2;injection h2 with h2;exact ⟨g',h2⟩
    obtain ⟨cur,hg,h4,h5,h6,h7⟩:=Row.set oM
    have hlen:(ys.flatMap K.f).length=ys.length*inf.size:=by rw [K.size,vi]
    have hle:m*K.sz+ys.length*K.sz≤c*K.sz:=by rw [← Nat.add_mul];exact dC _ kc
    have uo:=HH (P:=P) (ty:=ty) hu ri pI (m:=m) (c:=c) (g:=g) UZ hlen (eF (Nat.mul_le_mul (eF (Nat.le_add_left _ _) hb) Jh) (by decide)) (by omega) (fun x e=>by rw [vi];exact U0 x e) kc hg (by rw [hlen,vi,h6];exact hle) (dE.1 (K.vF _))
    refine cY hx (w':=(w.setRow g (cur.toList.take (m*K.sz)++ys.flatMap K.f++cur.toList.drop (m*K.sz+(ys.flatMap K.f).length)).toArray)) ?_ (hp _ ?_)
    ·rw [vi] at uo
     exact qg7
    ·have h8:cur.toList.length=c*K.sz:=by rw [Array.length_toList,h6]
     have hsp:=spliced (cur:=cur.toList) (news:=ys.flatMap K.f) (m:=m*K.sz) (by rw [h8,K.size];exact hle)
     have IW:cur.toList.take (m*K.sz)=(xs.take m).flatMap K.f:=by
      rw [← K.Sm hm,← h7,List.take_take,fD (dC _ hm)]
     have oO:(xs.take m++ys).length=m+ys.length:=by rw [bm,b0,fD hm]
     refine yW hS hi hg h5 (cur2:=_) ?_ (K.size _) (by rw [oO];exact kc) ?_
     ·rw [List.size_toArray,hsp.1,h8]
     ·rw [oO,Nat.add_mul,← K.size ys,hsp.2,IW,List.flatMap_append]
   ·cases h
  ·cases h
 ·cases h
def Fp {α:Type} (K:Kd α) {xs ys:List α} {A:OA} {c m i:Nat} {t t2:TypeId} {y:Value} {H:List aM} {z:Op×TypeId} {L:Env} {ops:Array Oper} (hx:ef ops L i=some z) (h:Dp P L z=some (t,t2,K.e,.slice A m c,y)) (mL:fK P K.e K.sz=true)
 (hS:SS U w0 w H) (ho:K.Rd A xs w) (hm:xs.length=m) (hs:vJ P K t t2 y ys w) (kc:c<m+ys.length) (hb:m+ys.length≤1073741824)
 {Post:Value→World→Prop} (hp: ∀a c' w',SS U w0 w' (K.row (some a) c' (xs++ys)::H)→m+ys.length≤c'→Post (.slice (some a) (m+ys.length) c') w'):One P n ops Q i L w Post:=by
 obtain ⟨inf,zv,ri,pI,vi,Jh,Ip⟩:=gE mL
 obtain ⟨UZ,U0⟩:=hs.src ri pI
 unfold Dp at h
 split at h
 ·rename_i args ts ty
  split at h
  ·rename_i x y' t' t2' e1 e2
   have e1:=kq e1
   have e2:=kq e2
   subst e1
   subst e2
   split at h
   ·rename_i e hu
    simp only [a9,bI] at h
    obtain ⟨rfl,rfl,rfl,ha,hy⟩:=h
    subst hm
    have uo:=uH (P:=P) (ty:=ty) hu ri pI (A:=A) (m:=xs.length) (c:=c) (olds:=xs.flatMap K.f) UZ qrq qrq ho (eF (Nat.mul_le_mul hb Jh) (by decide)) (by omega) (fun x e=>by rw [vi];exact U0 x e) kc
    have vP:=grownCap_ge w (xs.length+ys.length) c K.e
    have hcm:=grownCap_le_maxLen w (xs.length+ys.length) c K.e qo1
    refine cY hx (v:=.slice (some ⟨w.heap.size,0,none⟩) (xs.length+ys.length) (grownCap w (xs.length+ys.length) c K.e)) (w':=w.drew.alloc (.cells ((xs.flatMap K.f).toArray++(ys.flatMap K.f).toArray++Builtin.zeroCells zv.cells (grownCap w (xs.length+ys.length) c K.e- (xs.length+ys.length))) K.e)) ?_ (hp _ _ _ ?_ vP)
    ·exact qg7
    ·have r5:Ch No w (w.drew.alloc (.cells ((xs.flatMap K.f).toArray++(ys.flatMap K.f).toArray++Builtin.zeroCells zv.cells (grownCap w (xs.length+ys.length) c K.e- (xs.length+ys.length))) K.e)):=(Ch.drew No w).trans (Ch.alloc _ _) fun _ _ x=>x
     have U1:(Builtin.zeroCells zv.cells (grownCap w (xs.length+ys.length) c K.e- (xs.length+ys.length))).size=(grownCap w (xs.length+ys.length) c K.e- (xs.length+ys.length))*K.sz:=by simp [Builtin.zeroCells,Ip]
     have U2:(xs.length+ys.length)*K.sz+(grownCap w (xs.length+ys.length) c K.e- (xs.length+ys.length))*K.sz=grownCap w (xs.length+ys.length) c K.e*K.sz:=by rw [← Nat.add_mul];congr 1;omega
     refine hS.wC (c:=Row K.e K.sz (.slice (some ⟨w.heap.size,0,none⟩) (xs++ys).length (grownCap w (xs.length+ys.length) c K.e)) (xs++ys).length ((xs++ys).flatMap K.f)) r5 ⟨K.size _,.inr ⟨w.heap.size,_,(xs.flatMap K.f).toArray++(ys.flatMap K.f).toArray++Builtin.zeroCells zv.cells (grownCap w (xs.length+ys.length) c K.e- (xs.length+ys.length)),rfl,bh _,?_,?_,hcm,?_,?_⟩⟩ ?_
     ·exact qe1
     ·rw [bm];exact vP
     ·simp only [Array.size_append,List.size_toArray,K.size,U1]
      rw [← U2,Nat.add_mul]
     ·have e:((xs.flatMap K.f).toArray++(ys.flatMap K.f).toArray++Builtin.zeroCells zv.cells (grownCap w (xs.length+ys.length) c K.e- (xs.length+ys.length))).toList=(xs++ys).flatMap K.f++(Builtin.zeroCells zv.cells (grownCap w (xs.length+ys.length) c K.e- (xs.length+ys.length))).toList:=by simp
      rw [e,← K.size,List.take_left' rfl]
     ·intro b hb
      have vj:w.heap.size=b:=by simpa [Row,Value.ownBlock] using hb
      subst vj
      exact qle
   ·cases h
  ·cases h
 ·cases h
def qg {α:Type} (K:Kd α) (A:OA) (c m:Nat) (xs ys:List α) (t t2:TypeId) (y:Value) (ho: ∀w,SH U w0 w s.H→K.Rd A xs w) (hm:xs.length=m) (hs: ∀w,SH U w0 w s.H→vJ P K t t2 y ys w) (kc:c<m+ys.length) (hb:m+ys.length≤1073741824) (g: ∀a c',m+ys.length≤c'→G P n U w0 Q (s.dT (.slice (some a) (m+ys.length) c') (s.H++ [.k (K.row (some a) c' (xs++ys))]))) (h:(s.nx (Dp P),s.vu n,fK P K.e K.sz)=(some (t,t2,K.e,.slice A m c,y),true,true):=by kernel_rfl):G P n U w0 Q s:=by
 simp only [bI] at h
 obtain ⟨h1,h2,h5⟩:=h
 obtain ⟨z,hc,h1⟩:=S.fU h1
 exact iS h2 fun w hS ops Q' j hx=>Fp K (hx.trans hc) h1 h5 hS (ho w hS) hm (hs w hS) kc hb fun a c' w' hw Sn=>⟨_,SH.Eo hw,g a c' Sn⟩
def Dy {α:Type} (K:Kd α) (i:Nat) (A:OA) (c:Nat) (xs ys:List α) (t t2:TypeId) (y:Value) (hs: ∀w,SH U w0 w s.H→vJ P K t t2 y ys w) (hb:xs.length+ys.length≤1073741824) (hA:A.isSome=true∨0<ys.length) (g: ∀A' c',G P n U w0 Q (s.dT (.slice A' (xs.length+ys.length) c') (s.H.set i (.k (K.row A' c' (xs++ys)))))) (h:(s.nx (Dp P),s.vu n,dR s.H.length [i],pk s.H [i],fK P K.e K.sz)=(some (t,t2,K.e,.slice A xs.length c,y),true,true,[K.row A c xs],true):=by kernel_rfl):G P n U w0 Q s:=by
 simp only [bI] at h
 obtain ⟨h1,h2,h3,h4,h5⟩:=h
 obtain ⟨z,hc,h1⟩:=S.fU h1
 refine iS h2 fun w hS ops Q' j hx=>?_
 have hi:=SH.gf h3 h4
 rcases Nat.lt_or_ge c (xs.length+ys.length) with hf|hf
 ·refine Fp K (hx.trans hc) h1 h5 hS (Row.rc (SS.tP hS hi)) rfl (hs w hS) hf hb fun a c' w' hw Sn=>⟨_,SH.set (A:=K.row (some a) c' (xs++ys)) ?_,g (some a) c'⟩
  obtain ⟨hl,he⟩:=aN.1 hi
  have hp:=(iG hi).cons (K.row (some a) c' (xs++ys))
  have h6:=(hw.perm hp).perm (List.Perm.swap _ _ _)
  exact (h6.tail).perm (p' hi)
 ·have hA':A.isSome=true:=by
   rcases hA with h|h
   ·exact h
   ·cases A with
    |some a=>rfl
    |none=>
     obtain ⟨_,⟨h6,_⟩|⟨g',cap,cur,h6,_⟩⟩:=SS.tP hS hi
     ·injection h6 with _ _ h7;omega
     ·cases h6
  refine KA K (hx.trans hc) h1 h5 hS hi (bO _) (hs w hS) hf hb hA' fun w' hw=>⟨_,SH.set (A:=K.row A c (xs++ys)) ?_,g A c⟩
  rw [List.take_length] at hw
  exact hw
end
