/- For the law of worlds: The layout. -/
import Derived.Test.YtfookmefmjhonaaGreatZ32
set_option linter.all false
namespace Go.Proofs.YtfookmefmjhonaaGreat.My
open Go.RowKit Go.bE
def pJ:Kd Bool:=⟨4,1,fun b=> [.bool b],fun _=>rfl,fun _=>rfl,by decide⟩
structure J5 where
 Ai:OA
 ni:Nat
 ci:Nat
 gp:Int
 rm:Int
 gr:Bool
 As:OA
 ms:Nat
 cs:Nat
 Af:OA
 mf:Nat
 cf:Nat
def OK:Kd J5:=⟨420,6,fun x=> [sl x.Ai x.ni x.ci,iv x.gp,iv x.rm,.bool x.gr,sl x.As x.ms x.cs,sl x.Af x.mf x.cf],fun _=>rfl,fun _=>rfl,by decide⟩
def vK (gr:Bool) (x:nK):Int:=if gr=true then x.grow else if 1048576<(x.shr*x.base+63)/64 then 1048576 else (x.shr*x.base+63)/64
def lS.wt {x:nK} (h:lS x):0≤x.shr*x.base∧x.shr*x.base≤1152921504606846976:=by
 have:=xN h.base h.shr
 rw [Int.mul_comm] at this
 exact this
def KK {x:nK} (h:lS x) (gr:Bool):0≤vK gr x∧vK gr x≤1048576:=by
 have h1:=h.wt
 have h2:=h.grow
 have h3:0≤(x.shr*x.base+63)/64:=Int.ediv_nonneg (by omega) (by decide)
 unfold vK
 split
 ·exact h2
 ·split<;>omega
def Pw (T:Int) (Cj:OA) (Wz:Nat) (ws:List Int) (hT:0≤T∧T≤1099511627776) (hw: ∀y∈ws,0≤y∧y≤1048576) (hs:1≤ws.sum) (hl:ws.length≤64):Ct Cp 327 #[iv T,sl Cj ws.length Wz] (fun w=>az.Rd Cj ws w) [] (fun v Cs=> ∃A2 c2,∃(m2:List Int),v=sl A2 m2.length c2∧m2.length=ws.length∧(∀y∈m2,0≤y∧y≤1099511627840)∧Cs= [az.row A2 c2 m2]):=by
 refine cc Tryz.func327 fun w0 hp=>aa 7 fun _=>ah (JA Cj Wz ws TA TA) [] il ?_
 rintro _ _ ⟨rfl,rfl⟩
 refine aa 20 fun _=>aC 6 (iv (T- ([]:List Int).sum)) (iv T) (by simp)<|bG az<|bG gB<|aR (σ:=Nat×OA×Nat×List Int×OA×Nat×List nH) (fun (k,B,d,m,B2,d2,rs)=> [(0,iv T),(4,sl none 0 0),(5,iv ws.sum),(6,iv (T-m.sum)),(7,sl B m.length d),(8,sl B2 rs.length d2),(17,sl Cj ws.length Wz),(18,iv (ws.length:Int)),(19,iv k)]) (fun (k,B,d,m,B2,d2,rs)=> [.k (az.row B d m),.k (gB.row B2 d2 rs)]) (fun (k,B,d,m,B2,d2,rs)=>iO T ws k m rs) (fun (k,B,d,m,B2,d2,rs)=>ws.length-k) (0,none,0,[],none,0,[]) [0,1] (iO.nil T ws) ?_
 rintro _ ⟨k,B,d,m,B2,d2,rs⟩ NO aB
 have AN:=NO.kl
 have oO:=NO.len
 have T0:=NO.rl
 have JB:=NO.adS hT hw hs hl
 refine aa 5 fun _=>aq ((k:Int)<(ws.length:Int)) (fun h1=>?_) (fun h1=>?_)
 ·refine aa 6 fun _=>aV Cj ws.length (k:Int) 1 qfm ?_
  obtain ⟨x2,e3⟩:=aw (xs:=ws) (k:=k) (by omega)
  refine bd 3 (ad Cj (k*1) 0) (iv x2) Wy<|aa 8 fun _=>ao (e:=by have:=xN hT (hw _ (aI e3));omega) 26 (T*x2)<|aa 3 fun _=>aO [(3,_),(5,_),(9,_),(13,_)] [] ⟨O1 (e:=fun _=>mM qrb (by omega)) .quo .i64 (fun vs=>T*x2) (fun vs=>ws.sum) (fun vs=>(T*x2)/ws.sum) (fun _=>qrf),ib az 0 (fun vs=>B) (fun vs=>d) (fun vs=>m) (fun vs=>some ⟨(a5 (vs 4)),0,none⟩) (fun vs=>1) (fun vs=>1) (fun vs=> [(T*x2)/ws.sum]) (fun vs w h=>h.eT 1 (a5 (vs 4)) 3 (List.flatMap az.f [(T*x2)/ws.sum]) kr),O1 (e:=fun _=>Int.tmod_eq_emod_of_nonneg (xN hT (hw _ (aI e3))).1) .rem .i64 (fun vs=>T*x2) (fun vs=>ws.sum) (fun vs=>(T*x2)% ws.sum) (fun _=>qrf),ib gB 1 (fun vs=>B2) (fun vs=>d2) (fun vs=>rs) (fun vs=>some ⟨(a5 (vs 12)),0,none⟩) (fun vs=>1) (fun vs=>1) (fun vs=> [(⟨(T*x2)% ws.sum,(k:Int)⟩:nH)]) (fun vs w h=>h.eT 2 (a5 (vs 12)) 432 (List.flatMap gB.f [(⟨(T*x2)% ws.sum,(k:Int)⟩:nH)]) kr),trivial⟩ fun v4=>aa 4 fun _=>FU .quo .i64 (T*x2) ws.sum ((T*x2)/ws.sum) qrf (mM qrb (by omega))<|aa 1 fun _=>ao (e:=by have:=Jz hT (hw _ (aI e3)).1 hs (X9 hw (aI e3));omega) 45 ((T-m.sum)- ((T*x2)/ws.sum))<|aa 5 fun _=>ao 46 ((k:Int)+1) ?_
  refine aa 2 fun _=>aC 6 (iv (T- (m++ [(T*x2)/ws.sum]).sum)) (iv ((T-m.sum)- ((T*x2)/ws.sum))) (by rw [tG,Int.sub_sub])<|aB _ (k+1,ak (v4 5),an (v4 5),m++ [(T*x2)/ws.sum],ak (v4 13),an (v4 13),rs++ [(⟨(T*x2)% ws.sum,(k:Int)⟩:nH)]) [3,5] kr (NO.step e3) du
 ·refine aa 4 fun _=>ah (JF B2 d2 rs.length rs TA (by omega)) [1] cJ ?_
  rintro _ _ ⟨m5,rfl,f6,rfl⟩
  refine aC 8 (sl B2 m5.length d2) (sl B2 rs.length d2) (by rw [f6.length_eq]) ?_
  have mJ:m5.length=ws.length:=by rw [f6.length_eq];omega
  have O9:=NO.left (by omega) hs
  have IW:(m5.take (T-m.sum).toNat).length=(T-m.sum).toNat:=by rw [b0];omega
  refine aa 6 fun _=>dN (φ:=m5.length≤d2) (fun w h=>h.mR (K:=gB) 2 B2 d2 m5 kr) fun hk7=>fC (hh:=⟨.i64,by rw [iR (by omega)]⟩) B2 m5.length d2 2 0 ((T-m.sum).toNat) none (some (iv (T-m.sum))) rfl (bh _) (by omega)<|aC 51 (sl B2 ((m5.take ((T-m.sum).toNat)).length) d2) (sl (dS B2 d2 0 2) ((T-m.sum).toNat-0) (d2-0)) (by rw [T6,b0,fD (by omega)];rfl)<|aa 4 fun _=>aR (σ:=Nat×List Int) (fun (j,q)=> [(4,sl none 0 0),(7,sl B m.length d),(51,sl B2 ((m5.take ((T-m.sum).toNat)).length) d2),(52,iv (((m5.take ((T-m.sum).toNat)).length:Nat):Int)),(53,iv j)]) (fun (j,q)=> [.k (az.row B d q),.k (gB.row B2 d2 m5)]) (fun (j,q)=>j≤(T-m.sum).toNat∧q.length=ws.length∧ ∀y∈q,0≤y∧y≤T+(j:Nat)) (fun (j,q)=>(T-m.sum).toNat-j) (0,m) [0,2] ⟨bh _,by omega,fun y hy=>by have:=NO.may hT hw hs y hy;omega⟩ ?_
  rintro _ ⟨j,q⟩ ⟨hj,ZA,Uy⟩ dG
  refine aa 5 fun _=>aq ((j:Int)<(((m5.take ((T-m.sum).toNat)).length:Nat):Int)) (fun h8=>?_) (fun h8=>?_)
  ·refine aa 5 fun _=>aV B2 ((m5.take ((T-m.sum).toNat)).length) (j:Int) 2 (fun w h=>Kd.cd (K:=gB) (xs:=m5) (h.bg 1 B2 d2 m5 kr) (by omega)) ?_
   obtain ⟨x9,ng⟩:=aw (xs:=m5) (k:=j) (by omega)
   refine bd 432 (ad B2 (j*2) 0) (bZ.V ⟨x9.n,x9.k⟩) (fun w h=>iy (K:=gB) (o:=0) (m:=2) (sub:= [iv x9.n,iv x9.k]) (h.bg 1 B2 d2 m5 kr) ng)<|ae 7 [2,2] fun F7=>aV (hj:=by have:=NO.at_ _ ((f6).mem_iff.1 (aI ng));omega) B m.length x9.k 1 qlu ?_
   obtain ⟨kE,vr⟩:=aw (xs:=q) (k:=x9.k.toNat) (by have:=NO.at_ _ ((f6).mem_iff.1 (aI ng));omega)
   refine bd 3 (ad B (x9.k.toNat*1) 0) (iv kE) (fun w h=>bW (K:=az) (h.bg 0 B d q kr) vr)<|aa 1 fun _=>ao (e:=by have:=Uy _ (aI vr);omega) 62 (kE+1)<|aV (hj:=by have:=NO.at_ _ ((f6).mem_iff.1 (aI ng));omega) B m.length x9.k 1 qlu<|gH az 0 B d q x9.k.toNat 0 kE (kE+1) 3 (iv (kE+1)) vr<|aa 4 fun _=>ao 64 ((j:Int)+1)<|aa 2 fun _=>dG _ (j+1,q.set x9.k.toNat (kE+1)) [0,1] kr ⟨by omega,by rw [cX];exact ZA,fun y hy=>by have:=X_ Uy vr y hy;omega⟩ du
  ·refine aa 6 fun _=>a_ [0] ⟨B,d,q,kt (sl B m.length d) (by rw [ZA,show m.length=ws.length from by omega]),ZA,fun y hy=>by have:=Uy y hy;omega,kr⟩
def Bn (au:Addr) (u:J5) (it:nK) (ID:lS it):Ct Cp 325 #[.pointer (some ((cz (some au)).add (0*6))),.agg #[iv it.base,iv it.lo,iv it.hi,iv it.grow,iv it.shr]] (fun w=>OK.Rd (some au) [u] w) [] (fun v Cs=>v=iv (vK u.gr it)∧Cs= []):=by
 refine cc Tryz.func325 fun w0 hp=>aa 11 fun a8=>bd 4 (ad (some au) (0*6) 3) (.bool u.gr) (fun w h=>bW (K:=OK) (hp.aE h.ch) rfl)<|aa 1 fun _=>eQ u.gr (fun h2=>?_) (fun h2=>?_)
 ·refine ae 6 [0] fun _=>a_ [] ⟨kt (iv it.grow) (by unfold vK;rw [if_pos h2]),kr⟩
 ·refine ae 8 [0,0] fun _=>ao (e:=by have:=ID.wt;omega) 15 (it.shr*it.base)<|aa 1 fun _=>ao (e:=by have:=ID.wt;omega) 16 ((it.shr*it.base)+64)<|aa 1 fun _=>ao (e:=by have:=ID.wt;omega) 17 (((it.shr*it.base)+64)-1)<|aa 1 fun _=>aC 18 (iv ((((it.shr*it.base)+64)-1)/64)) (iv (IntKind.i64.wrap (Int.tdiv (((it.shr*it.base)+64)-1) 64))) (iT (mM (by have:=ID.wt;omega) (by decide)))<|aa 3 fun _=>a_ [] ⟨kt (iv (if 1048576<((((it.shr*it.base)+64)-1)/64) then 1048576 else (((it.shr*it.base)+64)-1)/64)) (by unfold vK;rw [if_neg (c:=u.gr=true) (by rw [h2];decide),show it.shr*it.base+64-1=it.shr*it.base+63 from by omega]),kr⟩
structure mz (fx:List Bool) (k:Nat) (os:List Int):Prop where
 Zz: ∀x∈os,0≤x∧x<k∧fx[x.toNat]? =some false
 nd:os.Pairwise (· < ·)
 len:os.length≤k
def mz.nil (fx:List Bool):mz fx 0 []:=⟨by simp,.nil,bO _⟩
def mz.skip {fx:List Bool} {k:Nat} {os:List Int} (h:mz fx k os):mz fx (k+1) os:=⟨fun x hx=>by have:=h.Zz x hx;exact ⟨this.1,by omega,this.2.2⟩,h.nd,by have:=h.len;omega⟩
def mz.add {fx:List Bool} {k:Nat} {os:List Int} (h:mz fx k os) {x:Bool} (hx:fx[k]? =some x) (hb:(!x)=true):mz fx (k+1) (os++ [(k:Int)]):=by
 have hb:x=false:=by simpa using hb
 subst hb
 refine ⟨fun y hy=>?_,List.pairwise_append.2 ⟨h.nd,List.pairwise_singleton _ _,fun a ha b hb=>by rw [fv.1 hb];exact (h.Zz a ha).2.1⟩,by have:=h.len;simp;omega⟩
 rcases eG.1 hy with hy|hy
 ·exact h.skip.Zz y hy
 ·rw [fv.1 hy];exact ⟨by omega,by omega,by simpa using hx⟩
def mz.at {fx:List Bool} {n k:Nat} {os:List Int} (h:mz fx n os) {x:Int} (hx:os[k]? =some x):0≤x∧x<n∧fx[x.toNat]? =some false:=h.Zz x (aI hx)
def mz.ne {fx:List Bool} {n j k:Nat} {os:List Int} (h:mz fx n os) {x y:Int} (hx:os[j]? =some x) (hy:os[k]? =some y) (hj:j<k):x.toNat≠y.toNat:=by
 obtain ⟨h1,rfl⟩:=aN.1 hx
 obtain ⟨h2,rfl⟩:=aN.1 hy
 have:=List.pairwise_iff_getElem.1 h.nd j k h1 h2 hj
 have:=(h.Zz _ (List.getElem_mem h1)).1
 omega
structure uA (os zs ss:List Int) (k:Nat) (ds:List Int):Prop where
 len:ds.length=k
 «at» : ∀(j:Nat) (d:Int),ds[j]? =some d→ ∃x z,os[j]? =some x∧zs[j]? =some z∧ss[x.toNat]? =some (z+d)
 rg: ∀d∈ds,-2199023255552≤d∧d≤2199023255552
def uA.nil (os zs ss:List Int):uA os zs ss 0 []:=⟨rfl,by simp,by simp⟩
def uA.step {os zs ss ds:List Int} {k n:Nat} {fx:List Bool} (h:uA os zs ss k ds) (gX:mz fx n os) {x z s:Int} (hx:os[k]? =some x) (hz:zs[k]? =some z) (hl:x.toNat<ss.length) (hr: -2199023255552≤s-z∧s-z≤2199023255552):uA os zs (ss.set x.toNat s) (k+1) (ds++ [s-z]):=by
 refine ⟨by simp [h.len],fun j d hd=>?_,fun d hd=>?_⟩
 ·by_cases hj:j<ds.length
  ·rw [lW hj] at hd
   obtain ⟨x',z',h1,h2,h3⟩:=h.at j d hd
   exact ⟨x',z',h1,h2,by rw [lX (Ne.symm (gX.ne h1 hx (by rw [← h.len];exact hj)))];exact h3⟩
  ·rw [gD (by omega)] at hd
   have e:j-ds.length=0:=by have:=(aN.1 hd).1;simp only [dM,fA] at this;omega
   rw [e] at hd
   simp only [gQ,a9] at hd
   have ej:j=k:=by have:=h.len;omega
   subst ej
   exact ⟨x,z,hx,hz,by rw [gO hl,← hd];congr 1;omega⟩
 ·rcases eG.1 hd with hd|hd
  ·exact h.rg d hd
  ·rw [fv.1 hd];exact hr
def uA.by {os zs ss ds:List Int} {k n:Nat} (h:uA os zs ss n ds) {x z y:Int} (hx:os[k]? =some x) (hz:zs[k]? =some z) (hy:ss[x.toNat]? =some y) (hk:k<n):ds[k]? =some (y-z):=by
 have XN:k<ds.length:=by rw [h.len];exact hk
 obtain ⟨x',z',h1,h2,h3⟩:=h.at k ds[k] (dw XN)
 rw [hx] at h1;rw [hz] at h2
 injection h1 with h1;injection h2 with h2
 subst h1;subst h2
 rw [hy] at h3
 injection h3 with h3
 rw [dw XN]
 congr 1
 omega
def uA.sum {os zs ss ds:List Int} {n:Nat} (h:uA os zs ss n ds) (hn:n≤64): -140737488355328≤ds.sum∧ds.sum≤140737488355328:=by have h1:=pY h.rg;have:=h.len;omega
abbrev Pn (s d:Int):Prop:=s=0∨s>0∧d>0∨s<0∧d<0
structure yI (os ds:List Int) (fx fy:List Bool) (k:Nat):Prop where
 len:fy.length=fx.length
 old: ∀i:Nat,fx[i]? =some true→fy[i]? =some true
 ID: ∀(j:Nat) (d:Int),j<k→ds[j]? =some d→Pn ds.sum d→ ∃x,os[j]? =some x∧fy[x.toNat]? =some true
def yI.nil (os ds:List Int) (fx:List Bool):yI os ds fx fx 0:=⟨rfl,fun _ h=>h,fun _ _ h=>by omega⟩
def yI.step {os ds:List Int} {fx fy:List Bool} {k n:Nat} (h:yI os ds fx fy k) (gX:mz fx n os) {x d:Int} (hx:os[k]? =some x) (hd:ds[k]? =some d) {b:Bool} (hb:Pn ds.sum d→b=true):yI os ds fx (fy.set x.toNat b) (k+1):=by
 have h0:=(gX.at hx).2.2
 refine ⟨by rw [cX,h.len],fun i hi=>?_,fun j e hj he hh=>?_⟩
 ·rw [lX (fun e=>by subst e;rw [h0] at hi;cases hi)]
  exact h.old i hi
 ·by_cases XO:j=k
  ·subst XO
   rw [hd] at he
   injection he with he
   subst he
   refine ⟨x,hx,?_⟩
   rw [gO (by rw [h.len];exact (aN.1 h0).1),hb hh]
  ·obtain ⟨x',h1,h2⟩:=h.ID j e (by omega) he hh
   exact ⟨x',h1,by rw [lX (Ne.symm (gX.ne h1 hx (by omega)))];exact h2⟩
def K6: ∀ {a b:List Bool},b.length=a.length→(∀i:Nat,a[i]? =some true→b[i]? =some true)→b.count false≤a.count false
 | [],[],_,_=>bO _
 |x::a,y::b,hl,h=>by
  have h1:=K6 (a:=a) (b:=b) qsd fun i hi=>qk8
  have h2:=h 0
  exact qr4
 | [],_::_,h,_=>by simp at h
 |_::_,[],h,_=>by simp at h
def K7: ∀ {a b:List Bool} {i:Nat},b.length=a.length→(∀i:Nat,a[i]? =some true→b[i]? =some true)→a[i]? =some false→b[i]? =some true→b.count false<a.count false
 | [],_,_,_,_,h,_=>by simp at h
 |x::a,y::b,0,hl,h,h1,h2=>by
  have h3:=K6 (a:=a) (b:=b) qsd fun i hi=>qk8
  simp only [gQ,a9] at h1 h2
  subst h1;subst h2
  simp;omega
 |x::a,y::b,i+1,hl,h,h1,h2=>by
  have h3:=K7 (a:=a) (b:=b) (i:=i) qsd (fun i hi=>qk8) qsg IC
  have h4:=h 0
  exact qr4
 |_::_,[],_,h,_,_,_=>by simp at h
def Fe: ∀ {l:List Int},0<l.sum→ ∃d∈l,0<d
 | [],h=>by simp at h
 |x::l,h=>by
  by_cases hx:0<x
  ·exact ⟨x,cE,hx⟩
  ·obtain ⟨d,h1,h2⟩:=Fe (l:=l) qru
   exact ⟨d,bH _ h1,h2⟩
def sum_neg: ∀ {l:List Int},l.sum<0→ ∃d∈l,d<0
 | [],h=>by simp at h
 |x::l,h=>by
  by_cases hx:x<0
  ·exact ⟨x,cE,hx⟩
  ·obtain ⟨d,h1,h2⟩:=sum_neg (l:=l) qru
   exact ⟨d,bH _ h1,h2⟩
def yI.fin {os ds:List Int} {fx fy:List Bool} {k n:Nat} (h:yI os ds fx fy k) (gX:mz fx n os) (hk:ds.length≤k) (hn:0<ds.length):fy.count false<fx.count false:=by
 have h1: ∃(j:Nat) (d:Int),ds[j]? =some d∧Pn ds.sum d:=by
  by_cases h0:ds.sum=0
  ·exact ⟨0,ds[0],dw hn,.inl h0⟩
  ·by_cases h2:0<ds.sum
   ·obtain ⟨d,hd,h3⟩:=Fe h2
    obtain ⟨j,hj⟩:=List.mem_iff_getElem?.1 hd
    exact ⟨j,d,hj,.inr (.inl ⟨h2,h3⟩)⟩
   ·obtain ⟨d,hd,h3⟩:=sum_neg (l:=ds) (by omega)
    obtain ⟨j,hj⟩:=List.mem_iff_getElem?.1 hd
    exact ⟨j,d,hj,.inr (.inr ⟨by omega,h3⟩)⟩
 obtain ⟨j,d,hd,hh⟩:=h1
 obtain ⟨x,hx,h2⟩:=h.ID j d (by have:=(aN.1 hd).1;omega) hd hh
 exact K7 h.len h.old (gX.at hx).2.2 h2
def Dz {g:Int} {n:Nat} (hg:0≤g∧g≤1099511627776) (hn:n≤64):0≤g*(if ((n:Int)-1)>0 then (n:Int)-1 else 0)∧g*(if ((n:Int)-1)>0 then (n:Int)-1 else 0)≤70368744177664:=by
 have h1:0≤(if ((n:Int)-1)>0 then (n:Int)-1 else 0)∧(if ((n:Int)-1)>0 then (n:Int)-1 else 0)≤64:=by split<;>omega
 refine ⟨Int.mul_nonneg hg.1 h1.1,?_⟩
 have h2:=Int.mul_le_mul_of_nonneg_left h1.2 hg.1
 omega
def Uw {z:Int} (h:0≤z):0≤By z 1099511627776∧By z 1099511627776≤1099511627776:=by unfold By;split<;>omega
def nJ {l:List Int} {a b x:Int} (h: ∀y∈l,a≤y∧y≤b) (hx:a≤x∧x≤b): ∀y∈l++ [x],a≤y∧y≤b:=fun y hy=>(eG.1 hy).elim (h y) fun e=>by rw [fv.1 e];exact hx
structure OI (bo:List nK) (gr:Bool) (ss:List Int) (fx:List Bool):Prop where
 sl:ss.length=bo.length
 sr: ∀y∈ss,dD y
 fl:fx.length=bo.length
 w1: ∀(i:Nat) (x:nK),fx[i]? =some false→bo[i]? =some x→1≤vK gr x
def Ds {bo:List nK} {gr:Bool} {fx:List Bool} {k:Nat} {it:nK} (h: ∀(i:Nat) (x:nK),i<k→fx[i]? =some false→bo[i]? =some x→1≤vK gr x) (hi:bo[k]? =some it) {b:Bool} (hb:b=true∨1≤vK gr it): ∀(i:Nat) (x:nK),i<k+1→(fx.set k b)[i]? =some false→bo[i]? =some x→1≤vK gr x:=fun i x hik hf hx=>by
 by_cases e:i=k
 ·subst e
  rw [hi] at hx
  injection hx with hx
  subst hx
  rcases hb with hb|hb
  ·subst hb
   rw [gO (by have:=(aN.1 hf).1;rw [cX] at this;exact this)] at hf
   cases hf
  ·exact hb
 ·rw [lX (Ne.symm e)] at hf
  exact h i x (by omega) hf hx
def OI.round {bo:List nK} {gr:Bool} {ss vp:List Int} {fx Sb:List Bool} (h:OI bo gr ss fx) (h1:vp.length=bo.length) (h2: ∀y∈vp,dD y) (h3:Sb.length=bo.length) (h4: ∀i:Nat,fx[i]? =some true→Sb[i]? =some true):OI bo gr vp Sb:=⟨h1,h2,h3,fun i x hf hx=>h.w1 i x (by
 cases e:fx[i]?with
 |none=>have:=List.getElem?_eq_none_iff.1 e;have:=(aN.1 hf).1;have:=h.fl;omega
 |some b=>cases b with
  |true=>rw [h4 i e] at hf;cases hf
  |false=>rfl) hx⟩
def TB (au:Addr) (u:J5) (fx:List Bool) (hnf:u.mf=fx.length) (Cr:fx.length≤64):Ct Cp 318 #[.pointer (some ((cz (some au)).add (0*6)))] (fun w=>OK.Rd (some au) [u] w∧pJ.Rd u.Af fx w) [] (fun v Cs=> ∃A2 c2,∃(os:List Int),v=sl A2 os.length c2∧mz fx fx.length os∧Cs= [az.row A2 c2 os]):=by
 refine cc Tryz.func318 fun w0 hp=>aa 10 fun _=>bd 37 (ad (some au) (0*6) 5) (sl u.Af u.mf u.cf) Nz<|aa 4 fun _=>bG az<|aR (σ:=Nat×OA×Nat×List Int) (fun (k,B,d,os)=> [(2,sl B os.length d),(8,sl u.Af u.mf u.cf),(9,iv (u.mf:Int)),(10,iv k)]) (fun (k,B,d,os)=> [.k (az.row B d os)]) (fun (k,B,d,os)=>k≤fx.length∧mz fx k os) (fun (k,B,d,os)=>fx.length-k) (0,none,0,[]) [0] ⟨bh _,mz.nil fx⟩ ?_
 rintro _ ⟨k,B,d,os⟩ ⟨hk,gX⟩ aB
 have vh:=gX.len
 refine aa 5 fun _=>aq ((k:Int)<(u.mf:Int)) (fun h1=>?_) (fun h1=>?_)
 ·refine aa 6 fun _=>aV u.Af u.mf (k:Int) 1 (fun w h=>Kd.cd (K:=pJ) (xs:=fx) (hp.2.aE h.ch) (by omega)) ?_
  obtain ⟨x2,e3⟩:=aw (xs:=fx) (k:=k) (by omega)
  refine bd 4 (((cz u.Af).add (k*1)).add 0) (.bool x2) (fun w h=>bW (K:=pJ) (hp.2.aE h.ch) e3)<|aa 8 fun _=>eQ (!x2) (fun h4=>?_) (fun h4=>?_)
  ·refine aa 4 fun jn=>bQ az 0 B d os (so (jn 3)) 1 1 [(k:Int)] (fun w h=>h.eT 1 (jn 3) 3 (List.flatMap az.f [(k:Int)]) kr) (by omega) fun A6 c7=>aa 5 fun _=>ao 21 ((k:Int)+1)<|aa 2 fun _=>aB _ (k+1,A6,c7,os++ [(k:Int)]) [0] kr ⟨by omega,(gX.add e3 h4)⟩ du
  ·refine aa 4 fun _=>ao 21 ((k:Int)+1)<|aa 2 fun _=>aB _ (k+1,B,d,os) [0] kr ⟨by omega,gX.skip⟩ du
 ·refine aa 6 fun _=>a_ [0] ⟨B,d,os,kr,(show k=fx.length from by omega)▸gX,kr⟩
def Ux (au:Addr) (u:J5) (bo:List nK) (ss:List Int) (fx:List Bool) (mh: ∀y∈bo,lS y) (hni:u.ni=bo.length) (ou:bo.length≤64) (Pt: ∀y∈ss,dD y) (hns:u.ms=ss.length∧ss.length=bo.length) (hnf:u.mf=fx.length∧fx.length=bo.length) (hg:0≤u.gp∧u.gp≤1099511627776) (hr:dD u.rm):Ct Cp 328 #[.pointer (some ((cz (some au)).add (0*6)))] (fun w=>OK.Rd (some au) [u] w∧np.Rd u.Ai bo w∧az.Rd u.As ss w∧pJ.Rd u.Af fx w) [] (fun v Cs=> ∃(z:Int),v=iv z∧(0≤z∧z≤562949953421312)∧Cs= []):=by
 refine cc Tryz.func328 fun w0 hp=>aa 5 fun _=>aK [(3,iv u.rm),(7,iv u.gp),(11,sl u.Ai u.ni u.ci),(13,_),(15,_),(16,_)] [] ⟨cB 3 (ad (some au) (0*6) 2) Nz,cB 3 (ad (some au) (0*6) 1) Nz,qv4,fM ((u.ni:Int)-1),fM (e:=by have:=Dz (n:=u.ni) hg (by omega);first|omega|(rw [hni] at*;omega)) (u.gp*(if ((u.ni:Int)-1)>0 then (u.ni:Int)-1 else 0)),fM (e:=by have:=Dz (n:=u.ni) hg (by omega);first|omega|(rw [hni] at*;omega)) (u.rm- (u.gp*(if ((u.ni:Int)-1)>0 then (u.ni:Int)-1 else 0))),trivial⟩<|aa 6 fun _=>bd 389 (ad (some au) (0*6) 0) (sl u.Ai u.ni u.ci) Nz<|aa 4 fun _=>?_
 have hgi:=Dz (n:=u.ni) hg (by omega)
 refine aR (σ:=Nat×Int) (fun (k,z)=> [(0,.pointer (some ((cz (some au)).add (0*6)))),(2,iv 0),(3,iv z),(26,sl u.Ai u.ni u.ci),(27,iv (u.ni:Int)),(28,iv k)]) qsv (fun (k,z)=>k≤bo.length∧ -(140737488355328+(k:Int)*2199023255552)≤z∧z≤140737488355328+(k:Int)*2199023255552) (fun (k,z)=>bo.length-k) (0,u.rm- (u.gp*(if ((u.ni:Int)-1)>0 then (u.ni:Int)-1 else 0))) [] ⟨bh _,by omega,by omega⟩ ?_
 rintro _ ⟨k,z⟩ ⟨hk,hz,wu⟩ aB
 refine aa 5 fun _=>aq ((k:Int)<(u.ni:Int)) (fun h1=>?_) (fun h1=>?_)
 ·refine aa 6 fun _=>aV u.Ai u.ni (k:Int) 5 (fun w h=>Kd.cd (K:=np) (xs:=bo) (hp.2.1.aE h.ch) (by omega)) ?_
  obtain ⟨x2,e3⟩:=aw (xs:=bo) (k:=k) (by omega)
  refine bd 391 (((cz u.Ai).add (k*5)).add 0) (.agg #[iv x2.base,iv x2.lo,iv x2.hi,iv x2.grow,iv x2.shr]) (fun w h=>bN (K:=np) (hp.2.1.aE h.ch) e3)<|ae 9 [0] fun rM=>bd 37 (ad (some au) (0*6) 5) (sl u.Af u.mf u.cf) Nz<|aa 1 fun _=>aV u.Af u.mf (k:Int) 1 (fun w h=>Kd.cd (K:=pJ) (xs:=fx) (hp.2.2.2.aE h.ch) (by omega)) ?_
  obtain ⟨x5,e6⟩:=aw (xs:=fx) (k:=k) (by omega)
  refine bd 4 (((cz u.Af).add (k*1)).add 0) (.bool x5) (fun w h=>bW (K:=pJ) (hp.2.2.2.aE h.ch) e6)<|aa 1 fun _=>eQ x5 (fun h7=>?_) (fun h7=>?_)
  ·refine aa 5 fun _=>bd 32 (ad (some au) (0*6) 4) (sl u.As u.ms u.cs) Nz<|aa 1 fun _=>aV u.As u.ms (k:Int) 1 (fun w h=>Kd.cd (K:=az) (xs:=ss) (hp.2.2.1.aE h.ch) (by omega)) ?_
   obtain ⟨x8,e9⟩:=aw (xs:=ss) (k:=k) (by omega)
   refine bd 3 (((cz u.As).add (k*1)).add 0) (iv x8) (fun w h=>bW (K:=az) (hp.2.2.1.aE h.ch) e9)<|aa 1 fun _=>ao (e:=by have:=(mh _ (aI e3)).base;have:=Pt _ (aI e9);omega) 48 (z-x8)<|aa 5 fun _=>ao (e:=by have:=(mh _ (aI e3)).base;have:=Pt _ (aI e9);omega) 53 ((k:Int)+1)<|aa 2 fun _=>aB _ (k+1,z-x8) [] kr ⟨by omega,by have:=(mh _ (aI e3)).base;have:=Pt _ (aI e9);omega,by have:=(mh _ (aI e3)).base;have:=Pt _ (aI e9);omega⟩ du
  ·refine ae 5 [0] fun _=>ao (e:=by have:=(mh _ (aI e3)).base;omega) 52 (z-x2.base)<|aa 5 fun _=>ao (e:=by have:=(mh _ (aI e3)).base;omega) 53 ((k:Int)+1)<|aa 2 fun _=>aB _ (k+1,z-x2.base) [] kr ⟨by omega,by have:=(mh _ (aI e3)).base;omega,by have:=(mh _ (aI e3)).base;omega⟩ du
 ·refine aa 7 fun _=>bd 4 (ad (some au) (0*6) 3) (.bool u.gr) Nz<|aa 1 fun _=>eQ u.gr (fun iJ=>?_) (fun iJ=>?_)
  ·refine aa 6 fun _=>a_ [] ⟨if 0>z then 0 else z,kr,by constructor<;>(try split)<;>omega,kr⟩
  ·refine aa 5 fun _=>ao 61 (0-z)<|aa 3 fun _=>a_ [] ⟨if 0>(0-z) then 0 else 0-z,kr,by constructor<;>(try split)<;>omega,kr⟩
def KY (au:Addr) (u:J5) (w6:OA) (cos:Nat) (os:List Int) (bo:List nK) (ss:List Int) (fx:List Bool) (mh: ∀y∈bo,lS y) (hni:u.ni=bo.length) (ou:bo.length≤64) (Pt: ∀y∈ss,dD y) (hns:u.ms=ss.length∧ss.length=bo.length) (hnf:u.mf=fx.length∧fx.length=bo.length) (hg:0≤u.gp∧u.gp≤1099511627776) (hr:dD u.rm) (gX:mz fx fx.length os) (WB: ∀(i:Nat) (x:nK),fx[i]? =some false→bo[i]? =some x→1≤vK u.gr x) (rz:0<os.length):Ct Cp 326 #[.pointer (some ((cz (some au)).add (0*6))),sl w6 os.length cos] (fun w=>OK.Rd (some au) [u] w∧az.Rd w6 os w∧np.Rd u.Ai bo w∧az.Rd u.As ss w∧pJ.Rd u.Af fx w) [] (fun v Cs=> ∃A2 c2,∃(zs:List Int),v=sl A2 zs.length c2∧zs.length=os.length∧(∀y∈zs,0≤y∧y≤1099511627776)∧Cs= [az.row A2 c2 zs]):=by
 refine cc Tryz.func326 fun w0 hp=>aa 16 fun _=>bG az<|aR (σ:=Nat×OA×Nat×List Int) (fun (k,B,d,q)=> [(0,.pointer (some ((cz (some au)).add (0*6)))),(1,sl w6 os.length cos),(4,sl none 0 0),(5,sl B q.length d),(11,sl w6 os.length cos),(12,iv (os.length:Int)),(13,iv k)]) (fun (k,B,d,q)=> [.k (az.row B d q)]) (fun (k,B,d,q)=>k≤os.length∧q.length=k∧ ∀y∈q,1≤y∧y≤1048576) (fun (k,B,d,q)=>os.length-k) (0,none,0,[]) [0] ⟨bh _,rfl,by simp⟩ ?_
 rintro _ ⟨k,B,d,q⟩ ⟨hk,ZA,Uy⟩ aB
 have vh:=gX.len
 refine aa 5 fun _=>aq ((k:Int)<(os.length:Int)) (fun h1=>?_) (fun h1=>?_)
 ·refine aa 5 fun _=>aV w6 os.length (k:Int) 1 qlr ?_
  obtain ⟨x2,e3⟩:=aw (xs:=os) (k:=k) (by omega)
  refine bd 3 (ad w6 (k*1) 0) (iv x2) (fun w h=>bW (K:=az) (hp.2.1.aE h.ch) e3)<|aa 8 fun _=>bd 389 (ad (some au) (0*6) 0) (sl u.Ai u.ni u.ci) Nz<|aa 1 fun _=>aV (hj:=by have:=gX.at e3;omega) u.Ai u.ni x2 5 (fun w h=>Kd.cd (K:=np) (xs:=bo) (hp.2.2.1.aE h.ch) (by have:=gX.at e3;omega)) ?_
  obtain ⟨x4,e5⟩:=aw (xs:=bo) (k:=x2.toNat) (by have:=gX.at e3;omega)
  refine bd 391 (((cz u.Ai).add (x2.toNat*5)).add 0) (.agg #[iv x4.base,iv x4.lo,iv x4.hi,iv x4.grow,iv x4.shr]) (fun w h=>bN (K:=np) (hp.2.2.1.aE h.ch) e5)<|ah (Bn au u x4 (mh _ (aI e5))) [] Ok ?_
  rintro _ _ ⟨rfl,rfl⟩
  refine aa 1 fun pW=>bQ az 0 B d q (so (pW 0)) 1 1 [vK u.gr x4] (fun w h=>h.eT 1 (pW 0) 3 (List.flatMap az.f [vK u.gr x4]) kr) (by omega) fun A7 c8=>aa 5 fun _=>ao 29 ((k:Int)+1)<|aa 2 fun _=>aB _ (k+1,A7,c8,q++ [vK u.gr x4]) [0] kr ⟨by omega,by rw [bm,ZA];rfl,nJ Uy ⟨WB _ _ (gX.at e3).2.2 e5,(KK (mh _ (aI e5)) _).2⟩⟩ du
 ·refine aa 5 fun _=>ah (Ux au u bo ss fx mh (by omega) (by omega) Pt (by omega) (by omega) hg hr) [] (fun w h=>⟨hp.1.aE h.ch,hp.2.2.1.aE h.ch,hp.2.2.2.1.aE h.ch,hp.2.2.2.2.aE h.ch⟩) ?_
  rintro _ _ ⟨z9,rfl,f10,rfl⟩
  have I4:=f10.1
  refine aa 1 fun _=>aC 32 (iv (By z9 1099511627776)) (iv (if 1099511627776<z9 then 1099511627776 else z9)) (iT rfl)<|aa 1 fun _=>ah (Pw (By z9 1099511627776) B d q (Uw (by omega)) (fun y hy=>by have:=Uy y hy;omega) (by have:=(pY Uy).1;omega) (by have:=gX.len;omega)) [] (fun w h=>h.bg 0 B d q kr) ?_
  rintro _ _ ⟨rI,xR,K8,rfl,f14,f15,rfl⟩
  have oO:=f14
  refine aa 4 fun _=>bG az<|aR (σ:=Nat×OA×Nat×List Int) (fun (k,B,d,q)=> [(0,.pointer (some ((cz (some au)).add (0*6)))),(1,sl w6 os.length cos),(4,sl B q.length d),(34,sl rI K8.length xR),(35,iv (K8.length:Int)),(36,iv k)]) (fun (k,B,d,q)=> [.k (az.row rI xR K8),.k (az.row B d q)]) (fun (k,B,d,q)=>k≤K8.length∧q.length=k∧ ∀y∈q,0≤y∧y≤1099511627776) (fun (k,B,d,q)=>K8.length-k) (0,none,0,[]) [1,2] ⟨bh _,rfl,by simp⟩ ?_
  rintro _ ⟨k,B,d,q⟩ ⟨sE,ZB,Uz⟩ dG
  refine aa 5 fun _=>aq ((k:Int)<(K8.length:Int)) (fun AF=>?_) (fun AF=>?_)
  ·refine aa 6 fun _=>aV rI K8.length (k:Int) 1 (fun w h=>Kd.cd (K:=az) (xs:=K8) (h.bg 0 rI xR K8 kr) (by omega)) ?_
   obtain ⟨sC,Ng⟩:=aw (xs:=K8) (k:=k) (by omega)
   refine bd 3 (ad rI (k*1) 0) (iv sC) (fun w h=>bW (K:=az) (h.bg 0 rI xR K8 kr) Ng)<|aa 4 fun _=>?_
   obtain ⟨m0,rj⟩:=aw (xs:=os) (k:=k) (by omega)
   obtain ⟨sd,Hi⟩:=aw (xs:=bo) (k:=m0.toNat) qnd
   refine aK [(3,sl u.Ai u.ni u.ci),(6,_),(7,iv m0),(8,_),(10,iv sd.base)] [] ⟨qv4,bF w6 os.length (k:Int) 1 qlr,cB 3 (ad w6 (k*1) 0) (fun w h=>bW (K:=az) (hp.2.1.aE h.ch) rj),bF (hj:=by have:=gX.at rj;omega) u.Ai u.ni m0 5 (fun w h=>Kd.cd (K:=np) (xs:=bo) (hp.2.2.1.aE h.ch) qnd),cB 3 (((cz u.Ai).add (m0.toNat*5)).add 0) (fun w h=>bW (K:=np) (hp.2.2.1.aE h.ch) Hi),trivial⟩<|aa 5 fun _=>bd 4 (ad (some au) (0*6) 3) (.bool u.gr) Nz<|aa 1 fun _=>eQ u.gr (fun Yc=>?_) (fun Yc=>?_)
   ·refine aa 5 fun _=>ao (e:=by have:=(mh _ (aI Hi)).base;have:=f15 _ (aI Ng);omega) 59 (sd.base+sC)<|aa 2 fun ue=>bQ az 1 B d q (so (ue 1)) 1 1 [if 1099511627776<(sd.base+sC) then 1099511627776 else sd.base+sC] (fun w h=>h.eT 2 (ue 1) 3 (List.flatMap az.f [if 1099511627776<(sd.base+sC) then 1099511627776 else sd.base+sC]) kr) (by omega) fun vg vz=>aa 5 fun _=>ao 70 ((k:Int)+1)<|aa 2 fun _=>?_
    have jh:=(mh _ (aI Hi)).base
    have hpt:=f15 _ (aI Ng)
    exact dG _ (k+1,vg,vz,q++ [if 1099511627776<(sd.base+sC) then 1099511627776 else sd.base+sC]) [0,1] kr ⟨by omega,by rw [bm,ZB];rfl,nJ Uz qsr⟩ du
   ·refine aa 5 fun _=>ao (e:=by have:=(mh _ (aI Hi)).base;have:=f15 _ (aI Ng);omega) 66 (sd.base-sC)<|aa 2 fun Jd=>bQ az 1 B d q (so (Jd 1)) 1 1 [if 0>(sd.base-sC) then 0 else sd.base-sC] (fun w h=>h.eT 2 (Jd 1) 3 (List.flatMap az.f [if 0>(sd.base-sC) then 0 else sd.base-sC]) kr) (by omega) fun pR rC=>aa 5 fun _=>ao 70 ((k:Int)+1)<|aa 2 fun _=>?_
    have jh:=(mh _ (aI Hi)).base
    have hpt:=f15 _ (aI Ng)
    exact dG _ (k+1,pR,rC,q++ [if 0>(sd.base-sC) then 0 else sd.base-sC]) [0,1] kr ⟨by omega,by rw [bm,ZB];rfl,nJ Uz qsr⟩ du
  ·refine aa 6 fun _=>a_ [1] ⟨B,d,q,kr,by omega,Uz,kr⟩
def OJ (g:Nat) (Ai:OA) (ci:Nat) (bo:List nK) (gp rm:Int) (mh: ∀y∈bo,lS y) (ou:bo.length≤64) (hg:0≤gp∧gp≤1099511627776) (hr:dD rm):hO Cp 317 #[pv g] (fun U w=>np.gx Ai bo U w) [bJ g 420 [sl Ai bo.length ci,iv gp,iv rm,.bool false,sl none 0 0,sl none 0 0]] (fun v Cs=> ∃(gr:Bool),∃As cs Af cf fx,v=.tuple #[]∧fx.length=bo.length∧(∀(i:Nat) (x:nK),fx[i]? =some false→bo[i]? =some x→1≤vK gr x)∧Cs= [bJ g 420 [sl Ai bo.length ci,iv gp,iv rm,.bool gr,sl As ((bo.map iX).length) cs,sl Af fx.length cf],az.row As cs (bo.map iX),pJ.row Af cf fx]):=by
 refine kz [.b g 420 [sl Ai bo.length ci,iv gp,iv rm,.bool false,sl none 0 0,sl none 0 0]] Tryz.func317 fun U w0 hp=>aa 1 fun _=>aO [(6,_),(12,_)] [0,0,0,3] ⟨aY (fun vs=>ya Ai ci bo (by omega)) [] (fun vs=>sl (ak (vs 6)) ((bo.map iX).length) (an (vs 6))) [fun vs=>.k (az.row (ak (vs 6)) (an (vs 6)) (bo.map iX))] (fun vs w h=>(hp.aE h.ch).rc) kA,ahw pJ bo.length false,trivial⟩ fun v5=>aa 1 fun _=>aO [(9,_)] [4,4,4,4] ⟨aY (fun vs=>Rq (ak (v5 6)) (an (v5 6)) (bo.map iX) gp (fun y hy=>Yu) (rg_of hg) OO) [] (fun vs=>iv (dH (vs 9))) [] (fun vs w h=>h.bg 1 (ak (v5 6)) (an (v5 6)) (bo.map iX) kr) (fun vs u C h=>by obtain ⟨_,rfl,_,rfl⟩:=h;exact ⟨rfl,rfl⟩),trivial⟩ fun v10=>ae 10 [5] fun _=>aD 5 (bJ g 420 [sl Ai bo.length ci,iv gp,iv rm,.bool (decide ((dH (v10 9))<rm)),sl (ak (v5 6)) ((bo.map iX).length) (an (v5 6)),sl (ak (v5 12)) bo.length bo.length]) (bJ g 420 [sl Ai bo.length ci,iv gp,iv rm,.bool (decide ((dH (v10 9))<rm)),sl (ak (v5 6)) ((bo.map iX).length) (an (v5 6)),sl (ak (v5 12)) ((List.replicate bo.length false).length) bo.length]) kr (by rw [eA])<|dB 6 g 420 [sl Ai bo.length ci,iv gp,iv rm,.bool (decide ((dH (v10 9))<rm)),sl (ak (v5 6)) ((bo.map iX).length) (an (v5 6)),sl (ak (v5 12)) ((List.replicate bo.length false).length) bo.length]<|aR (σ:=Nat×List Bool) (fun (k,fx)=> [(0,pv g),(42,sl Ai bo.length ci),(43,iv (bo.length:Int)),(44,iv k)]) (fun (k,fx)=> [.b g 420 [sl Ai bo.length ci,iv gp,iv rm,.bool (decide ((dH (v10 9))<rm)),sl (ak (v5 6)) ((bo.map iX).length) (an (v5 6)),sl (ak (v5 12)) fx.length bo.length],.k (az.row (ak (v5 6)) (an (v5 6)) (bo.map iX)),.k (pJ.row (ak (v5 12)) bo.length fx)]) (fun (k,fx)=>k≤bo.length∧fx.length=bo.length∧ ∀(i:Nat) (x:nK),i<k→fx[i]? =some false→bo[i]? =some x→1≤vK (decide ((dH (v10 9))<rm)) x) (fun (k,fx)=>bo.length-k) (0,List.replicate bo.length false) [6,1,2] ⟨bh _,eA,fun i _ h=>by omega⟩ ?_
 rintro _ ⟨k,fx⟩ ⟨hk,Cr,hw⟩ aB
 have oO:(bo.map iX).length=bo.length:=cM iX
 refine aa 5 fun _=>aq ((k:Int)<(bo.length:Int)) (fun kx=>?_) (fun kx=>?_)
 ·refine aa 6 fun _=>aV Ai bo.length (k:Int) 5 (fun w h=>Kd.cd (K:=np) (xs:=bo) ((hp.aE h.ch).rc) (by omega)) ?_
  obtain ⟨kE,vr⟩:=aw (xs:=bo) (k:=k) (by omega)
  refine bd 391 (ad Ai (k*5) 0) (.agg #[iv kE.base,iv kE.lo,iv kE.hi,iv kE.grow,iv kE.shr]) (fun w h=>bN (K:=np) ((hp.aE h.ch).rc) vr)<|ae 11 [3,0] fun yc=>aV (ak (v5 6)) ((bo.map iX).length) (k:Int) 1 (fun w h=>Kd.cd (K:=az) (xs:=bo.map iX) (h.bg 1 (ak (v5 6)) (an (v5 6)) (bo.map iX) kr) (by omega)) ?_
  obtain ⟨l_,CA⟩:=aw (xs:=bo.map iX) (k:=k) (by omega)
  refine bd 3 (((cz (ak (v5 6))).add (k*1)).add 0) (iv l_) (fun w h=>bW (K:=az) (h.bg 1 (ak (v5 6)) (an (v5 6)) (bo.map iX) kr) CA)<|aa 2 fun _=>?_
  rcases bK (decide ((vK (decide ((dH (v10 9))<rm)) kE)=0)) with Zm|Zm
  ·have Rw:=cg Zm
   obtain ⟨m0,rj⟩:=aw (xs:=fx) (k:=k) (by omega)
   refine aO [(7,_),(8,_),(34,_),(35,_)] [0,3] ⟨W5,jS (fun vs=>.bool (decide ((vK (decide ((dH (v10 9))<rm)) kE)=0))) (fun vs=>.bool true) (fun _=>dP Zm),Xe,cR pJ 2 (fun vs=>ak (v5 12)) (fun vs=>bo.length) (fun vs=>fx) k 0 (fun vs=>m0) (fun vs=>true) 4 (fun vs=>.bool true) (fun _=>rj),trivial⟩ fun gW=>qs6
  ·have Rw:=de Zm
   rcases bK (decide ((dH (v10 9))<rm)) with Y9|Y9
   ·have tH:=cg Y9
    rcases bK (decide (kE.base>l_)) with NA|NA
    ·have D5:=cg NA
     obtain ⟨l9,vo⟩:=aw (xs:=fx) (k:=k) (by omega)
     refine aO [(7,_),(8,_),(14,_),(18,_),(34,_),(35,_)] [0,3,0,3] ⟨W5,Zl,qfu,jS (fun vs=>.bool (decide (kE.base>l_))) (fun vs=>.bool true) (fun _=>dP NA),Xe,cR pJ 2 (fun vs=>ak (v5 12)) (fun vs=>bo.length) (fun vs=>fx) k 0 (fun vs=>l9) (fun vs=>true) 4 (fun vs=>.bool true) (fun _=>vo),trivial⟩ fun v28=>qs6
    ·have D5:=de NA
     rcases bK (!decide ((dH (v10 9))<rm)) with _4|_4
     ·have Tz: ¬ ((dH (v10 9))<rm):=by simpa using _4
      obtain ⟨x31,e32⟩:=aw (xs:=fx) (k:=k) (by omega)
      refine aO [(7,_),(8,_),(14,_),(18,_),(26,_),(34,_),(35,_)] [0,3,0,3,0,3] ⟨W5,Zl,qfu,qj4,jS (fun vs=>.bool (!decide ((dH (v10 9))<rm))) (fun vs=>.bool true) (fun _=>dP _4),Xe,cR pJ 2 (fun vs=>ak (v5 12)) (fun vs=>bo.length) (fun vs=>fx) k 0 (fun vs=>x31) (fun vs=>decide (kE.base<l_)) 4 (fun vs=>.bool (decide (kE.base<l_))) (fun _=>e32),trivial⟩ fun v33=>qs3
     ·have Tz:(dH (v10 9))<rm:=by simpa using _4
      obtain ⟨ot,Ni⟩:=aw (xs:=fx) (k:=k) (by omega)
      refine aO [(7,_),(8,_),(14,_),(18,_),(26,_),(34,_),(35,_)] [0,3,0,3,0] ⟨W5,Zl,qfu,qj4,jS (fun vs=>.bool (!decide ((dH (v10 9))<rm))) (fun vs=>.bool false) (fun _=>dP _4),Xe,cR pJ 2 (fun vs=>ak (v5 12)) (fun vs=>bo.length) (fun vs=>fx) k 0 (fun vs=>ot) (fun vs=>false) 4 (fun vs=>.bool false) (fun _=>Ni),trivial⟩ fun EO=>qs5
   ·have tH:=de Y9
    rcases bK (!decide ((dH (v10 9))<rm)) with _5|_5
    ·have C4: ¬ ((dH (v10 9))<rm):=by simpa using _5
     obtain ⟨Xh,Xi⟩:=aw (xs:=fx) (k:=k) (by omega)
     refine aO [(7,_),(8,_),(14,_),(26,_),(34,_),(35,_)] [0,3,0,0,3] ⟨W5,Zl,qjv,jS (fun vs=>.bool (!decide ((dH (v10 9))<rm))) (fun vs=>.bool true) (fun _=>dP _5),Xe,cR pJ 2 (fun vs=>ak (v5 12)) (fun vs=>bo.length) (fun vs=>fx) k 0 (fun vs=>Xh) (fun vs=>decide (kE.base<l_)) 4 (fun vs=>.bool (decide (kE.base<l_))) (fun _=>Xi),trivial⟩ fun v41=>qs3
    ·have C4:(dH (v10 9))<rm:=by simpa using _5
     obtain ⟨zN,DC⟩:=aw (xs:=fx) (k:=k) (by omega)
     refine aO [(7,_),(8,_),(14,_),(26,_),(34,_),(35,_)] [0,3,0,0] ⟨W5,Zl,qjv,jS (fun vs=>.bool (!decide ((dH (v10 9))<rm))) (fun vs=>.bool false) (fun _=>dP _5),Xe,cR pJ 2 (fun vs=>ak (v5 12)) (fun vs=>bo.length) (fun vs=>fx) k 0 (fun vs=>zN) (fun vs=>false) 4 (fun vs=>.bool false) (fun _=>DC),trivial⟩ fun v44=>qs5
 ·refine aa 1 fun _=>a_ [0,1,2] ⟨decide ((dH (v10 9))<rm),ak (v5 6),an (v5 6),ak (v5 12),bo.length,fx,kr,Cr,fun i x h1 h2=>hw i x (by have:=(aN.1 h2).1;omega) h1 h2,kr⟩
