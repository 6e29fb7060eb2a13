/- For the law of worlds: What functions do; What lies in memory. -/
import Derived.Test.YtfookmefmjhonaaGreatZ38
set_option linter.all false
namespace Go.Proofs.YtfookmefmjhonaaGreat.My
open Go.RowKit Go.bE
def rq (g:Nat) (W:kX):Ct Cp 55 #[pv g,sl none 0 0] (fun _=>True) [pF g W] (fun v Cs=>v=.tuple #[]∧Cs= [pF g W]):=by
 refine Fz [.k (pF g W)] Tryz.func55 fun U w0 hp=>aa 8 fun _=>Of
def IX (g:Nat) (aU:OA) (bb:Nat) (xs:List UInt8) (W:kX) (f:pU) (hx:xs=fR f) (zJ:gN f) (hb:xs.length≤1000000) (T0:W.row.length≤64):Ct Cp 55 #[pv g,sl aU xs.length bb] (fun _=>True) [pF g W,aA.row aU bb xs] (fun v Cs=> ∃l,∃(sn:Int),v=.tuple #[]∧(l= []∨l= [⟨xs,aU,bb,f.to,false⟩])∧(W.row++l).length≤64∧Cs= [pF g ({W with row:=W.row++l,fO:=sn}),aM.all (l.map gL.own)]):=by
 refine Fz [.k (pF g W),.k (aA.row aU bb xs)] Tryz.func55 fun U w0 hp=>bn (φ:=nc g W) 0 ?_
 rintro _ ⟨Ar,cr,Aw,cw,Aa,ca,rfl⟩
 refine dB 2 g 65 EY ?_
 have zI:4≤xs.length:=by rw [hx];exact (nX f).1
 refine aa 7 fun _=>aq ((xs.length:Int)=0) (fun h1=>?_) (fun h1=>?_)
 ·exact kp
 ·refine ae 15 [2,2] fun _=>dN (φ:=xs.length≤bb) (fun w h=>h.mR (K:=aA) 1 aU bb xs kr) fun sE=>ah (Fc aU bb xs f hx zJ (by omega) sE) [] (fun w h=>h.bg 1 aU bb xs kr) ?_
  rintro _ _ ⟨Uu,Uv,kv,K3,Pv,rfl,f8,rfl⟩
  refine ae 16 [10,2] fun EA=>aq ((W.row.length:Int)<64) (fun iJ=>?_) (fun iJ=>?_)
  ·refine aO [(10,_)] [2,10,2] ⟨ib mF 4 (fun vs=>Aw) (fun vs=>cw) (fun vs=>W.row) (fun vs=>some ⟨(a5 (vs 9)),0,none⟩) (fun vs=>1) (fun vs=>1) (fun vs=> [(⟨xs,aU,bb,f.to,false⟩:gL)]) (fun vs w h=>h.eT 10 (a5 (vs 9)) 132 (List.flatMap mF.f [(⟨xs,aU,bb,f.to,false⟩:gL)]) kr),trivial⟩ fun v11=>dQ<|eD gL.own 1 14 ([]:List gL) (⟨xs,aU,bb,f.to,false⟩:gL) kr<|aD 15 (aM.all ((([]:List gL)++ [(⟨xs,aU,bb,f.to,false⟩:gL)]).map gL.own)) (aM.all ([(⟨xs,aU,bb,f.to,false⟩:gL)].map gL.own)) kr rfl<|aJ (nc g ({W with row:=W.row++ [(⟨xs,aU,bb,f.to,false⟩:gL)],fO:=IntKind.i64.wrap (W.fO+1)})) [13,3,12,5,6] [bJ g 65 [sl Ar ((W.aF.map (·.rb)).length) cr,sl (ak (v11 10)) ((W.row++ [(⟨xs,aU,bb,f.to,false⟩:gL)]).length) (an (v11 10)),iv (IntKind.i64.wrap (W.fO+1)),sl Aa W.fu.length ca],mE.row Ar cr (W.aF.map (·.rb)),mF.row (ak (v11 10)) (an (v11 10)) (W.row++ [(⟨xs,aU,bb,f.to,false⟩:gL)]),pc.row Aa ca W.fu,aM.all (W.aF.map jE)] (⟨Ar,cr,ak (v11 10),an (v11 10),Aa,ca,rfl⟩)<|a_ [17,16] ⟨[(⟨xs,aU,bb,f.to,false⟩:gL)],IntKind.i64.wrap (W.fO+1),kr,.inr rfl,by simp only [bm,dM,fA];omega,kr⟩
  ·refine aa 1 fun _=>dQ<|aS mF 4 Aw cw W.row (W.row++ []) kr (fj _).symm<|bP 2 g 65 [sl Ar ((W.aF.map (·.rb)).length) cr,sl Aw W.row.length cw,iv (IntKind.i64.wrap (W.fO+1)),sl Aa W.fu.length ca] [sl Ar ((W.aF.map (·.rb)).length) cr,sl Aw ((W.row++ []).length) cw,iv (IntKind.i64.wrap (W.fO+1)),sl Aa W.fu.length ca] kr (by rw [fj])<|aJ (nc g ({W with row:=W.row++ [],fO:=IntKind.i64.wrap (W.fO+1)})) [2,3,12,5,6] [bJ g 65 [sl Ar ((W.aF.map (·.rb)).length) cr,sl Aw ((W.row++ []).length) cw,iv (IntKind.i64.wrap (W.fO+1)),sl Aa W.fu.length ca],mE.row Ar cr (W.aF.map (·.rb)),mF.row Aw cw (W.row++ []),pc.row Aa ca W.fu,aM.all (W.aF.map jE)] (⟨Ar,cr,Aw,cw,Aa,ca,rfl⟩)<|a_ [13,11] ⟨([]:List gL),IntKind.i64.wrap (W.fO+1),kr,.inl rfl,by simpa using T0,kr⟩
section
def re {v:List Int} {r:Int} {x:Int} (h:0≤r∧r<v.length) (q:Int) (hq:0≤q):dA (v.set r.toNat x) q=if q=r then x else dA v q:=by
 unfold dA
 rw [bA,bA,List.getElem?_set]
 by_cases e:q=r
 ·subst e
  rw [if_pos rfl,if_pos rfl,if_pos (by omega)];rfl
 ·rw [if_neg (by omega),if_neg e]
def cP.up: ∀ {l:List bz} {u v:List Int},cP u l v→(∀o∈l,0≤o.st.r∧o.st.r<u.length)→(∀q,0≤q→dA u q≤dA v q)∧ ∀o∈l,dA u o.st.r<o.seq∧o.seq≤dA v o.st.r
 | [],u,v,h,_=>by
  have:v=u:=h
  subst this
  exact ⟨fun _ _=>Int.le_refl _,fun o ho=>by cases ho⟩
 |x::l,u,v,h,hb=>by
  have hx:=hb x cE
  have h1:dA u x.st.r=x.seq-1:=h.1.1
  have ih:=cP.up h.2 fun o ho=>qji
  have hs:=fun q hq=>re (x:=x.seq) hx q hq
  have FA: ∀q,0≤q→dA u q≤dA (u.set x.st.r.toNat x.seq) q:=fun q hq=>by
   rw [hs q hq];split
   ·rename_i e;subst e;omega
   ·exact qsk
  refine ⟨fun q hq=>Int.le_trans (FA q hq) (ih.1 q hq),fun o ho=>?_⟩
  rcases dx.1 ho with rfl|ho
  ·have h2:=ih.1 o.st.r hx.1
   rw [hs _ hx.1,if_pos rfl] at h2
   omega
  ·have h2:=ih.2 o ho
   have h3:=FA o.st.r (hb o (bH _ ho)).1
   omega
def cP.still: ∀ {l:List bz} {u v:List Int} {q:Int},cP u l v→0≤q→(∀o∈l,0≤o.st.r∧o.st.r<u.length)→(∀o∈l,¬o.st.r=q)→dA v q=dA u q
 | [],u,v,q,h,_,_,_=>by
  have:v=u:=h
  rw [this]
 |x::l,u,v,q,h,hq,hb,hn=>by
  rw [cP.still h.2 hq (fun o ho=>qji) fun o ho=>hn o (bH _ ho),re (hb x cE) q hq,if_neg fun e=>hn x cE e.symm]
def cP.vec: ∀ {l:List bz} {u v:List Int},cP u l v→dW u→(∀o∈l,0≤o.seq∧o.seq≤1099511627776)→dW v
 | [],u,v,h,hu,_=>by
  have:v=u:=h
  rwa [this]
 |x::l,u,v,h,hu,hb=>cP.vec h.2 (by
  obtain ⟨h1,h2,h3⟩:=hu
  refine ⟨by rwa [cX],by rwa [cX],fun y hy=>?_⟩
  rcases List.mem_or_eq_of_mem_set hy with h4|h4
  ·exact h3 y h4
  ·rw [h4];exact hb x cE) fun o ho=>hb o (bH _ ho)
def MC {o:bz} (h:bV o):0≤o.seq∧o.seq≤1099511627776:=by
 refine ⟨?_,h.2.2.2.2.2.1⟩
 rw [h.2.2.2.2.1]
 have h3:=h.2.2.1
 have h4:=h.1.2.2.1
 obtain ⟨x,hx⟩: ∃x,o.aX[o.st.r.toNat]? =some x:=⟨_,dw (by omega)⟩
 have:=(h.2.1.2.2 x (aI hx)).1
 rw [bA,hx]
 show 0≤x+1
 omega
def oK {o:bz} (h:bV o) {n:Nat} (hn:o.aX.length=n):0≤o.st.r∧o.st.r<n:=⟨h.1.2.2.1,by rw [← hn];exact h.2.2.1⟩
def PN {l:List bz} (h: ∀o∈l,bV o):0≤bq l∧bq l≤1099511627776:=by
 have: ∀(l:List bz) (t:Int),(∀o∈l,bV o)→0≤t∧t≤1099511627776→0≤l.foldl (fun t o=>if o.st.t>t then o.st.t else t) t∧l.foldl (fun t o=>if o.st.t>t then o.st.t else t) t≤1099511627776:=by
  intro l
  induction l with
  |nil=>exact fun _ _ h=>h
  |cons x l ih=>
   intro t hm ht
   refine ih _ (fun o ho=>hm o (bH _ ho)) ?_
   have h1:=(hm x cE).1
   have h2:=h1.1;have h3:=h1.2.1
   dsimp only
   split<;>omega
 exact this l 0 h ⟨by omega,by omega⟩
section
variable {n k k' i:Nat} {W:kX} {r r':m'}
def ma.mono (h:ma n k i r) (hk:k≤k'):ma n k' i r:= {h with own:=by have:=h.own;omega}
def ma.aF (h:ma n k i r):(∀o∈r.d.ops,0≤o.st.r∧o.st.r<n)∧ ∀o∈r.d.held,0≤o.st.r∧o.st.r<n:=⟨fun o ho=>oK (h.ops o ho).1 (h.ops o ho).2,fun o ho=>oK (h.held o ho).1 (h.held o ho).2⟩
def ma.seq (h:ma n k i r): ∀o∈r.d.ops,o.seq≤dA r.d.hv o.st.r:=fun o ho=>((h.chain.up (by rw [eA];exact h.aF.1)).2 o ho).2
def lB.set (hr:W.aF[i]? =some r) (hs: ∀o∈r.d.ops,o∈r'.d.ops) {o:bz} (h:lB W o):lB {W with aF:=W.aF.set i r'} o:=by
 obtain ⟨q,h1,h2⟩:=h
 have hi:=(aN.1 hr).1
 by_cases e:i=o.st.r.toNat
 ·rw [← e,hr] at h1
  injection h1 with h1
  subst h1
  exact ⟨r',by show (W.aF.set i r')[_]? =_;rw [← e,gO hi],hs o h2⟩
 ·exact ⟨q,by show (W.aF.set i r')[_]? =_;rw [lX e,h1],h2⟩
def WI.set (h:WI n k W) (hr:W.aF[i]? =some r) (hk:k≤k') (hk0:k'≤100) (h1:ma n k' i r') (hs: ∀o∈r.d.ops,o∈r'.d.ops) (ho: ∀o,o∈r'.d.ops∨o∈r'.d.held→lB W o∨(o.st.r=i∧o∈r'.d.ops)):WI n k' {W with aF:=W.aF.set i r'}:=by
 have hi:=(aN.1 hr).1
 have nD: ∀ {o},lB W o→lB {W with aF:=W.aF.set i r'} o:=fun hq=>lB.set hr hs hq
 refine ⟨h.n0,hk0,by show (W.aF.set i r').length=n;rw [cX];exact h.len,fun j q hq=>?_,fun q hq o hqo=>?_,fun x hx=>?_,h.row⟩
 ·have hq:(W.aF.set i r')[j]? =some q:=hq
  by_cases e:i=j
  ·subst e
   rw [gO hi] at hq
   injection hq with hq
   rwa [← hq]
  ·rw [lX e] at hq
   exact (h.rep j q hq).mono hk
 ·have hq:q∈W.aF.set i r':=hq
  rcases List.mem_or_eq_of_mem_set hq with hq|rfl
  ·exact nD (h.own q hq o hqo)
  ·rcases ho o hqo with h2|⟨h2,h3⟩
   ·exact nD h2
   ·exact ⟨q,by show (W.aF.set i q)[_]? =_;rw [h2,Int.toNat_natCast,gO hi],h3⟩
 ·have S9:=h.Ag x hx
  refine ⟨S9.len,S9.Ae.imp (fun ⟨f,h2,h3,h4⟩=>⟨f,h2,h3,⟨h4.ok,h4.fN,h4.hv,fun o ho=>⟨(h4.ops o ho).1,nD (h4.ops o ho).2⟩⟩⟩) id⟩
def VS (h:WI n k W) (hr:W.aF[i]? =some r) {tk:List bz} {v:List Int} (hc:cP r.d.hv tk v) (hb: ∀o∈tk,(bV o∧o.aX.length=n)∧lB W o): ∀o∈tk,¬o.st.r=i:=fun o ho e=>by
 have h0:=h.rep i r hr
 obtain ⟨q,h1,h2⟩:=(hb o ho).2
 rw [e,Int.toNat_natCast,hr] at h1
 injection h1 with h1
 subst h1
 have h3:=h0.seq o h2
 have h4:=((hc.up fun y hy=>by rw [h0.len];exact oK (hb y hy).1.1 (hb y hy).1.2).2 o ho).1
 omega
def WI.heard (h:WI n k W) (hr:W.aF[i]? =some r) {f:pU} {d2:j9} (hf:tu n W f) (hh:gK r.d f.ops d2):WI n k {W with aF:=W.aF.set i {r with d:=d2}}:=by
 have h0:=h.rep i r hr
 have hm:r∈W.aF:=aI hr
 obtain ⟨tk,e1,hc,ht⟩:=hh.tk
 have iF: ∀o,o∈f.ops∨o∈r.d.held→(bV o∧o.aX.length=n)∧lB W o:=fun o ho=>ho.elim (fun ho=>⟨⟨uj hf.ok o ho,(hf.ops o ho).1⟩,(hf.ops o ho).2⟩) fun ho=>⟨h0.held o ho,h.own r hm o (.inr ho)⟩
 have wR:=VS h hr hc fun o ho=>iF o (ht o ho)
 refine h.set hr (bO _) h.k0 ⟨hh.rep.trans h0.rep,by rw [show ({r with d:=d2}:m').d.hv=d2.hv from rfl,hc.len];exact h0.len,hc.vec h0.vec fun o ho=>MC (iF o (ht o ho)).1.1,by show cP _ d2.ops d2.hv;rw [e1];exact h0.chain.app hc,fun o ho=>?_,fun o ho=>(iF o (hh.held o ho)).1,hh.hl,?_,hh.aW,by show 0≤d2.wait∧_;rw [hh.wait];show 0≤r.d.wait∧r.d.wait≤4∧0≤d2.dT∧d2.dT<_;rw [hh.dT];exact h0.wn⟩ (fun o ho=>by show o∈d2.ops;rw [e1];exact List.mem_append_left _ ho) fun o ho=>.inl ?_
 ·have ho:o∈d2.ops:=ho
  rw [e1] at ho
  exact (eG.1 ho).elim (h0.ops o) fun ho=>(iF o (ht o ho)).1
 ·show dA d2.hv i≤k
  rw [hc.still (by omega) (fun o ho=>by rw [h0.len];exact oK (iF o (ht o ho)).1.1 (iF o (ht o ho)).1.2) wR]
  exact h0.own
 ·rcases ho with ho|ho
  ·have ho:o∈d2.ops:=ho
   rw [e1] at ho
   exact (eG.1 ho).elim (fun ho=>h.own r hm o (.inl ho)) fun ho=>(iF o (ht o ho)).2
  ·exact (iF o (hh.held o ho)).2
def cP.one: ∀ {l:List bz} {u v:List Int} {x:bz},cP u l v→0≤x.st.r→(∀o∈l,0≤o.st.r∧o.st.r<u.length)→(∀o∈l,o.st.r=x.st.r→o=x)→dA v x.st.r≤(if x∈l then x.seq else dA u x.st.r)∨dA v x.st.r=dA u x.st.r
 |l,u,v,x,h,hq,hb,hn=>by
  by_cases hx: ∃o∈l,o.st.r=x.st.r
  ·obtain ⟨o,ho,e⟩:=hx
   have e2:=hn o ho e
   subst e2
   rw [if_pos ho]
   left
   clear hq
   induction l generalizing u with
   |nil=>cases ho
   |cons y l ih=>
    by_cases hy: ∃z∈l,z.st.r=o.st.r
    ·obtain ⟨z,hz,ez⟩:=hy
     have:=hn z (bH _ hz) ez
     subst this
     exact ih _ h.2 (fun o ho=>qji) hz (fun o ho=>hn o (bH _ ho))
    ·rcases dx.1 ho with rfl|ho
     ·rw [cP.still h.2 (hb o cE).1 (fun z hz=>by rw [cX];exact hb z (bH _ hz)) (fun z hz e=>hy ⟨z,hz,e⟩),re (hb o cE) _ (hb o cE).1,if_pos rfl]
      exact qsk
     ·exact absurd ⟨o,ho,rfl⟩ hy
  ·exact .inr (cP.still h hq hb fun o ho e=>hx ⟨o,ho,e⟩)
def WI.did (h:WI n k W) (hr:W.aF[i]? =some r) {q:qj} {o:bz} {v2:List Int} {h2 tk:List bz} (hk:k<100) (hi:qk r.d q o) (hl:kH r.d.hv r.d.held o v2 h2 tk):WI n (k+1) {W with aF:=W.aF.set i {r with d:= {r.d with hv:=v2,held:=h2,ops:=r.d.ops++tk}}}:=by
 have h0:=h.rep i r hr
 have hm:r∈W.aF:=aI hr
 have Xt:o.st.r=i:=by rw [hi.st];exact h0.rep
 have WT:o.aX.length=n:=by rw [hi.aX];exact h0.len
 have Sz: ∀y∈r.d.held,y.st.r=i→y.seq≤dA r.d.hv i:=fun y hy e=>by
  obtain ⟨q2,h3,h4⟩:=h.own r hm y (.inr hy)
  rw [e,Int.toNat_natCast,hr] at h3
  injection h3 with h3
  subst h3
  have:=h0.seq y h4
  rwa [e] at this
 have ate:o.seq=dA r.d.hv i+1:=by rw [hi.seq,h0.rep]
 have je:o∈tk:=hl.own (xg hi) (by rw [Xt];omega) fun y hy e=>by have:=Sz y hy (e.1.trans Xt);omega
 have iF: ∀y∈tk,bV y∧y.aX.length=n:=fun y hy=>(hl.YT y hy).elim (fun e=>e▸⟨hi.may,WT⟩) (h0.held y)
 have hb: ∀y∈tk,0≤y.st.r∧y.st.r<r.d.hv.length:=fun y hy=>by rw [h0.len];exact oK (iF y hy).1 (iF y hy).2
 have zT: ∀y∈tk,y.st.r=o.st.r→y=o:=fun y hy e=>by
  rcases hl.YT y hy with h3|h3
  ·exact h3
  ·have h4:=Sz y h3 (e.trans Xt)
   have h5:=((hl.chain.up hb).2 y hy).1
   rw [e,Xt] at h5
   omega
 have hv2:dA v2 i≤k+1:=by
  have h5:=cP.one (x:=o) hl.chain (by omega) hb zT
  rw [Xt,if_pos je] at h5
  have:=h0.own
  omega
 refine h.set hr (Nat.le_succ _) hk ⟨h0.rep,by show v2.length=n;rw [hl.chain.len];exact h0.len,hl.chain.vec h0.vec fun y hy=>MC (iF y hy).1,h0.chain.app hl.chain,fun y hy=>(eG.1 hy).elim (h0.ops y) (iF y),fun y hy=>(hl.je y hy).elim (fun e=>e▸⟨hi.may,WT⟩) (h0.held y),hl.hl,by show dA v2 i≤((k+1:Nat):Int);omega,h0.aW,h0.wn⟩ (fun y hy=>List.mem_append_left _ hy) fun y hy=>?_
 have ow: ∀z,z=o∨z∈r.d.held→lB W z∨(z.st.r=i∧z∈r.d.ops++tk):=fun z hz=>hz.elim (fun e=>.inr (by rw [e];exact ⟨Xt,List.mem_append_right _ je⟩)) fun hz=>.inl (h.own r hm z (.inr hz))
 rcases hy with hy|hy
 ·exact (eG.1 hy).elim (fun hy=>.inl (h.own r hm y (.inl hy))) fun hy=>ow y (hl.YT y hy)
 ·exact ow y (hl.je y hy)
end
end
section
def MD (l:List Int):(l.flatMap fun x=>aQ x.toNat).length≤9*l.length∨ ∃x∈l,4611686018427387904<x.toNat:=by
 induction l with
 |nil=>exact .inl (bO _)
 |cons x l ih=>
  rcases ih with ih|⟨y,hy,h⟩
  ·by_cases hx:x.toNat≤4611686018427387904
   ·left;rw [iE,bm,dM];have:=eB hx;omega
   ·exact .inr ⟨x,cE,by omega⟩
  ·exact .inr ⟨y,bH _ hy,h⟩
def FM: ∀ {l:List bz},(∀o∈l,bV o)→(l.flatMap iL).length≤400*l.length
 | [],_=>bO _
 |x::l,h=>by
  have h1:=FM fun o ho=>h o (bH x ho)
  have h2:=ku (h x cE)
  rw [iE,bm,dM];omega
def xq {f:pU} (h:gN f):1≤(fR f).length∧(fR f).length≤1000000:=by
 have hc:=(nX f).1
 have h0:=RR h
 have h8:=FM (uj h)
 have hv:=E7 h
 have hn:(f.hv.flatMap fun x=>aQ x.toNat).length≤9*f.hv.length:=by
  rcases MD f.hv with h1|⟨x,hx,h1⟩
  ·exact h1
  ·exfalso
   rcases h.2.2.2.2.2 with k|k
   ·have:=k.2.1.2.2 x hx;omega
   ·rw [k.2.1] at hx;cases hx
 refine ⟨by omega,?_⟩
 have e1:=eB (n:=f.fN.toNat) (by have:=h.2.1;omega)
 have e2:=eB (n:=f.to.toNat) (by have:=h.2.2.2.1;omega)
 have e3:=eB (n:=f.kind.toNat) (by rcases h.2.2.2.2.2 with k|k<;>rw [k.1]<;>decide)
 have e4:=eB (n:=f.hv.length) (by omega)
 have e5:=eB (n:=f.ops.length) (by omega)
 have e6:(fp (cj (mU f))).length=4:=rfl
 have e7:(if f.kind=1 then bS f.hv else aQ f.ops.length).length≤9*18:=by
  split
  ·unfold bS;rw [bm];omega
  ·omega
 show (fp (cj (mU f))++mU f).length≤_
 rw [bm,e6]
 unfold mU
 simp only [bm]
 omega
section
variable {n k i:Nat} {W:kX} {r r':m'}
def WI.Rb (h:WI n k W) {l:List gL} {sn:Int} (hl: ∀x∈l,j_ n W x) (hr:(W.row++l).length≤64):WI n k {W with row:=W.row++l,fO:=sn}:=
 ⟨h.n0,h.k0,h.len,h.rep,h.own,fun x hx=>by
  have h1:j_ n W x:=(eG.1 hx).elim (h.Ag x) (hl x)
  exact ⟨h1.len,h1.Ae.imp (fun ⟨f,a,b,c⟩=>⟨f,a,b,⟨c.ok,c.fN,c.hv,c.ops⟩⟩) id⟩,hr⟩
def gP (hr:W.aF[i]? =some r) (e:r'.rb=r.rb):(W.aF.set i r').map (·.rb)=W.aF.map (·.rb):=by
 exact qno
def ru (hr:W.aF[i]? =some r) (e:r'.up=r.up):(W.aF.set i r').map (·.up)=W.aF.map (·.up):=by
 exact qno
def ME {f:pU} (h:tu n W f) (A:OA) (c:Nat) (b:Bool):j_ n W ⟨fR f,A,c,f.to,b⟩:=⟨xq h.ok,.inl ⟨f,rfl,rfl,h⟩⟩
def MF (h:WI n k W) (hr:W.aF[i]? =some r) {t:Int} {l2:List bz} (hf:gN ⟨r.d.rep,t,2,[],l2⟩) (hl: ∀o∈l2,o∈r.d.ops):tu n {W with aF:=W.aF.set i {r with d:=r.d}} ⟨r.d.rep,t,2,[],l2⟩:=by
 have h0:=h.rep i r hr
 have hi:=(aN.1 hr).1
 have hlen:=h.len
 refine ⟨hf,by rw [show (⟨r.d.rep,t,2,[],l2⟩:pU).fN=r.d.rep from rfl,h0.rep];omega,fun e=>absurd (show (2:Int)=1 from e) (by decide),fun o ho=>⟨(h0.ops o (hl o ho)).2,lB.set hr (fun _ h=>h) (h.own r (aI hr) o (.inl (hl o ho)))⟩⟩
def VV (h:ma n k i r) {f:pU} (hf:tu n W f) (ht:f.to=i):Fit r.d f:=⟨by rw [ht,h.rep],by rw [h.len];exact hf.fN,fun e=>by rw [h.len];exact hf.hv e,fun o ho=>by rw [h.len];exact (hf.ops o ho).1⟩
def ma.pM (h:ma n k i r) (hn:n≤4) (vh:r.d.ops.length≤2000):gI r.d:=⟨fun o ho=>(h.ops o ho).1,fun o ho=>(h.held o ho).1,by rw [h.len];omega,by omega,h.hl⟩
end
section
variable {n k i:Nat} {W:kX} {r r':m'}
def Em {f:pU} (h:tu n W f) {l:List gL} {A:OA} {c:Nat} (hl:l= []∨l= [⟨fR f,A,c,f.to,false⟩]): ∀x∈l,j_ n W x:=by
 rcases hl with rfl|rfl
 ·intro x hx;cases hx
 ·intro x hx;rw [fv.1 hx];exact ME h _ _ _
def WI.same (h:WI n k W) (hr:W.aF[i]? =some r):WI n k {W with aF:=W.aF.set i {r with d:=r.d}}:=by
 rw [show ({r with d:=r.d}:m')=r from rfl,mr hr];exact h
def WI.dropped (h:WI n k W) (hr:W.aF[i]? =some r):WI n k {W with aF:=W.aF.set i {r with d:= {r.d with aW:=if 1099511627776<r.d.aW+1 then 1099511627776 else r.d.aW+1}}}:=by
 have h0:=h.rep i r hr
 exact h.set hr (bO _) h.k0 ⟨h0.rep,h0.len,h0.vec,h0.chain,h0.ops,h0.held,h0.hl,h0.own,BW h0.aW,h0.wn⟩ (fun _ h=>h) fun o ho=>ql3
def FN: ∀ {v:List Int} {j:Nat} {x:Int},j<v.length→(v.set j x).sum=v.sum-v.getD j 0+x
 | [],_,_,h=>absurd h (Nat.not_lt_zero _)
 |y::v,0,x,_=>by simp only [List.set_cons_zero,List.sum_cons,List.getD_cons_zero];omega
 |y::v,j+1,x,h=>by
  have:=FN (v:=v) (j:=j) (x:=x) TF
  simp only [List.set_cons_succ,List.sum_cons,List.getD_cons_succ,this];omega
def cP.sum: ∀ {l:List bz} {u v:List Int},cP u l v→(∀o∈l,0≤o.st.r∧o.st.r<u.length)→v.sum=u.sum+l.length
 | [],u,v,h,_=>by
  have:v=u:=h
  rw [this];simp
 |x::l,u,v,h,hb=>by
  have hx:=hb x cE
  rw [cP.sum h.2 fun o ho=>qji,FN (by omega),h.1.1,dM];omega
def cP.max {K:Int}: ∀ {l:List bz} {u v:List Int},cP u l v→(∀o∈l,o.seq≤K)→(∀x∈u,x≤K)→ ∀x∈v,x≤K
 | [],u,v,h,_,hu=>by
  have:v=u:=h
  rwa [this]
 |x::l,u,v,h,hb,hu=>cP.max h.2 (fun o ho=>hb o (bH _ ho)) fun y hy=>(List.mem_or_eq_of_mem_set hy).elim (hu y) fun e=>e▸hb x cE
def MG {K:Int}: ∀ {v:List Int},(∀x∈v,x≤K)→v.sum≤v.length*K
 | [],_=>by simp
 |x::v,h=>by
  have h1:=MG fun y hy=>h y (bH x hy)
  have h2:=h x cE
  rw [List.sum_cons,dM,Int.natCast_succ,Int.add_mul];omega
def VW (h:WI n k W) {o:bz} (ho:lB W o) (hm:bV o):o.seq≤k:=by
 obtain ⟨q,h1,h2⟩:=ho
 have h3:=h.rep _ q h1
 have h4:=h3.seq o h2
 have h5:=h3.own
 have h6:=hm.1.2.2.1
 rw [iR h6] at h5
 omega
def rn (h:WI n k W) (hr:W.aF[i]? =some r):r.d.ops.length≤2000:=by
 have h0:=h.rep i r hr
 have hm:r∈W.aF:=aI hr
 have h1:=h0.chain.sum (by rw [eA];exact h0.aF.1)
 have h2:=MG (h0.chain.max (K:=k) (fun o ho=>VW h (h.own r hm o (.inl ho)) (h0.ops o ho).1) fun x hx=>qrh)
 have h3:(bR n).sum=0:=by simp [bR]
 rw [h0.len] at h2
 have h4:=h.n0;have h5:=h.k0
 have h6:(n:Int)*k≤4*100:=Int.mul_le_mul (by omega) (by omega) (by omega) (by omega)
 omega
end
def Kr (g:Nat) (x:gL) (W:kX) (n k:Nat) (hW:WI n k W) (hx:j_ n W x):Ct Cp 50 #[pv g,.agg #[sl x.A x.b.length x.c,iv x.to,.bool x.sp]] (fun _=>True) [pF g W,aA.row x.A x.c x.b] (fun v Cs=>(∃(W2:kX),∃l,v=.tuple #[]∧WI n k W2∧W2.row=W.row++l∧W2.fu=W.fu∧W2.aF.map (·.up)=W.aF.map (·.up)∧Cs= [pF g W2,aA.row x.A x.c x.b,aM.all (l.map gL.own)])):=by
 refine Fz [.k (pF g W),.k (aA.row x.A x.c x.b)] Tryz.func50 fun U w0 hp=>?_
 have T0:=hW.row
 have hlen:=hW.len
 have Ra:=hW.n0
 refine ae 9 [2] fun a8=>ah (Lw g x.to W (by omega)) [0] cJ ?_
 rintro _ _ (⟨rfl,f3,rfl⟩|⟨r4,rfl,f5,f6,f7,rfl⟩)
 ·refine aa 9 fun _=>dQ<|a_ [3,1,4] (⟨W,([]:List gL),kr,hW,(fj _).symm,rfl,rfl,kr⟩)
 ·have nv:=hW.rep _ _ f6
  have vh:=rn hW f6
  have NT:=nv.pM Ra.2 vh
  have hi:=(aN.1 f6).1
  refine dN (φ:=x.b.length≤x.c) (fun w h=>h.mR (K:=aA) 1 x.A x.c x.b kr) fun hk8=>bn (φ:=nc g W) 3 ?_
  rintro _ ⟨Ar,cr,Aw,cw,Aa,ca,rfl⟩
  refine dB 4 g 65 EY<|gu 8 x.to.toNat jE W.aF r4 f6 kr<|bn (φ:=xn r4) 9 ?_
  rintro _ (⟨_,rfl⟩|⟨SY,rfl⟩)
  ·refine dB 11 r4.rb 72 (.pointer (some ⟨r4.dk,0,none⟩)::.pointer (some ⟨r4.kb,0,none⟩)::c_.cells r4.s) ?_
   rcases hx.Ae with ⟨f,hxf,hto,Sx⟩|⟨_,Dk⟩
   ·have hft:=VV nv Sx (by rw [← hto];omega)
    refine aa 11 fun _=>aO [(6,_)] [11,2] ⟨fJ (fun vs=>(Kx r4.kb x.A x.c x.b r4.dk r4.d f NT nv.aW (eF hx.len.2 (by decide)) hk8 hxf Sx.ok hft (fun y hy=>qrz) (fun y hy=>by rw [nv.len];exact (nv.ops y hy).2) (by omega)).g9) [12] (fun vs=>.tuple #[sl (ak (tp (vs 6) 0)) (eI (tp (vs 6) 0)) (an (tp (vs 6) 0)),iv (dH (tp (vs 6) 1))]) [fun vs=>.k (g9 ((fun v Cs=>(∃l2 A c,v=.tuple #[sl A ((fR ⟨r4.d.rep,f.fN,2,[],l2⟩).length) c,iv 0]∧gN ⟨r4.d.rep,f.fN,2,[],l2⟩∧(∀o∈l2,o∈r4.d.ops)∧f.kind=1∧Cs= [kn r4.kb r4.dk r4.d,aA.row A c (fR ⟨r4.d.rep,f.fN,2,[],l2⟩)])∨(∃(d2:j9),v=.tuple #[sl none 0 0,iv 0]∧gK r4.d f.ops d2∧Cs= [kn r4.kb r4.dk d2])) (vs 6)))] qqi (fun vs u C h=>by obtain ⟨⟨_,h⟩,rfl⟩:=h;refine ⟨?_,rfl⟩;rcases h with ⟨_,_,_,rfl,_,_,_,_⟩|⟨_,rfl,_,_⟩<;>rfl),trivial⟩ fun oW=>?_
    refine bn (φ:=(fun v Cs=>(∃l2 A c,v=.tuple #[sl A ((fR ⟨r4.d.rep,f.fN,2,[],l2⟩).length) c,iv 0]∧gN ⟨r4.d.rep,f.fN,2,[],l2⟩∧(∀o∈l2,o∈r4.d.ops)∧f.kind=1∧Cs= [kn r4.kb r4.dk r4.d,aA.row A c (fR ⟨r4.d.rep,f.fN,2,[],l2⟩)])∨(∃(d2:j9),v=.tuple #[sl none 0 0,iv 0]∧gK r4.d f.ops d2∧Cs= [kn r4.kb r4.dk d2])) (oW 6)) 13 ?_
    rintro _ (⟨O2,wZ,vH,Un,f24,f25,f26,rfl⟩|⟨d27,Un,f28,rfl⟩)
    ·refine aC 20 (.tuple #[sl wZ ((fR ⟨r4.d.rep,f.fN,2,[],O2⟩).length) vH,iv 0]) (.tuple #[sl (ak (tp (oW 6) 0)) (eI (tp (oW 6) 0)) (an (tp (oW 6) 0)),iv (dH (tp (oW 6) 1))]) IH<|aC 13 (.tuple #[sl wZ ((fR ⟨r4.d.rep,f.fN,2,[],O2⟩).length) vH,iv 0]) (.tuple #[sl (ak (tp (oW 6) 0)) (eI (tp (oW 6) 0)) (an (tp (oW 6) 0)),iv (dH (tp (oW 6) 1))]) IH<|aC 21 (sl wZ ((fR ⟨r4.d.rep,f.fN,2,[],O2⟩).length) vH) (sl (ak (tp (oW 6) 0)) (eI (tp (oW 6) 0)) (an (tp (oW 6) 0))) IH<|aC 22 (iv 0) (iv (dH (tp (oW 6) 1))) IH<|aC 5 (sl wZ ((fR ⟨r4.d.rep,f.fN,2,[],O2⟩).length) vH) (sl (ak (tp (oW 6) 0)) (eI (tp (oW 6) 0)) (an (tp (oW 6) 0))) IH<|aC 6 (iv 0) (iv (dH (tp (oW 6) 1))) IH ?_
     have NV:=hW.same f6
     have S0:=MF hW f6 f24 f25
     refine aJ (xn ({r4 with d:=r4.d})) [11,14] [bJ r4.rb 72 (.pointer (some ⟨r4.dk,0,none⟩)::.pointer (some ⟨r4.kb,0,none⟩)::c_.cells r4.s),kn r4.kb r4.dk r4.d] (.inl ⟨f7,rfl⟩)<|fQ 16 10 x.to.toNat jE W.aF ({r4 with d:=r4.d}) hi<|aS mE 5 Ar cr (W.aF.map (·.rb)) ((W.aF.set x.to.toNat ({r4 with d:=r4.d})).map (·.rb)) kr (gP (r':= {r4 with d:=r4.d}) f6 rfl).symm<|bP 4 g 65 EY [sl Ar (((W.aF.set x.to.toNat ({r4 with d:=r4.d})).map (·.rb)).length) cr,sl Aw W.row.length cw,iv W.fO,sl Aa W.fu.length ca] kr (by rw [gP (r':= {r4 with d:=r4.d}) f6 rfl])<|aJ (nc g ({W with aF:=W.aF.set x.to.toNat {r4 with d:=r4.d}})) [4,18,6,7,17] [bJ g 65 [sl Ar (((W.aF.set x.to.toNat ({r4 with d:=r4.d})).map (·.rb)).length) cr,sl Aw W.row.length cw,iv W.fO,sl Aa W.fu.length ca],mE.row Ar cr ((W.aF.set x.to.toNat ({r4 with d:=r4.d})).map (·.rb)),mF.row Aw cw W.row,pc.row Aa ca W.fu,aM.all ((W.aF.set x.to.toNat ({r4 with d:=r4.d})).map jE)] (⟨Ar,cr,Aw,cw,Aa,ca,rfl⟩)<|aa 3 fun _=>ah (IX g wZ vH (fR ⟨r4.d.rep,f.fN,2,[],O2⟩) ({W with aF:=W.aF.set x.to.toNat {r4 with d:=r4.d}}) (⟨r4.d.rep,f.fN,2,[],O2⟩) rfl S0.ok ((xq S0.ok).2) T0) [19,15] cJ ?_
     rintro _ _ ⟨l31,aht,rfl,f33,f34,rfl⟩
     refine aa 1 fun _=>a_ [20,1,21] (⟨{({W with aF:=W.aF.set x.to.toNat {r4 with d:=r4.d}}) with row:=({W with aF:=W.aF.set x.to.toNat {r4 with d:=r4.d}}).row++l31,fO:=aht},l31,kr,NV.Rb (Em S0 f33) f34,rfl,rfl,ru f6 rfl,kr⟩)
    ·refine aC 20 (.tuple #[sl none 0 0,iv 0]) (.tuple #[sl (ak (tp (oW 6) 0)) (eI (tp (oW 6) 0)) (an (tp (oW 6) 0)),iv (dH (tp (oW 6) 1))]) IH<|aC 13 (.tuple #[sl none 0 0,iv 0]) (.tuple #[sl (ak (tp (oW 6) 0)) (eI (tp (oW 6) 0)) (an (tp (oW 6) 0)),iv (dH (tp (oW 6) 1))]) IH<|aC 21 (sl none 0 0) (sl (ak (tp (oW 6) 0)) (eI (tp (oW 6) 0)) (an (tp (oW 6) 0))) IH<|aC 22 (iv 0) (iv (dH (tp (oW 6) 1))) IH<|aC 5 (sl none 0 0) (sl (ak (tp (oW 6) 0)) (eI (tp (oW 6) 0)) (an (tp (oW 6) 0))) IH<|aC 6 (iv 0) (iv (dH (tp (oW 6) 1))) IH ?_
     have NV:=hW.heard f6 Sx f28
     refine aJ (xn ({r4 with d:=d27})) [11,14] [bJ r4.rb 72 (.pointer (some ⟨r4.dk,0,none⟩)::.pointer (some ⟨r4.kb,0,none⟩)::c_.cells r4.s),kn r4.kb r4.dk d27] (.inl ⟨f7,rfl⟩)<|fQ 15 10 x.to.toNat jE W.aF ({r4 with d:=d27}) hi<|aS mE 5 Ar cr (W.aF.map (·.rb)) ((W.aF.set x.to.toNat ({r4 with d:=d27})).map (·.rb)) kr (gP (r':= {r4 with d:=d27}) f6 rfl).symm<|bP 4 g 65 EY [sl Ar (((W.aF.set x.to.toNat ({r4 with d:=d27})).map (·.rb)).length) cr,sl Aw W.row.length cw,iv W.fO,sl Aa W.fu.length ca] kr (by rw [gP (r':= {r4 with d:=d27}) f6 rfl])<|aJ (nc g ({W with aF:=W.aF.set x.to.toNat {r4 with d:=d27}})) [4,17,6,7,16] [bJ g 65 [sl Ar (((W.aF.set x.to.toNat ({r4 with d:=d27})).map (·.rb)).length) cr,sl Aw W.row.length cw,iv W.fO,sl Aa W.fu.length ca],mE.row Ar cr ((W.aF.set x.to.toNat ({r4 with d:=d27})).map (·.rb)),mF.row Aw cw W.row,pc.row Aa ca W.fu,aM.all ((W.aF.set x.to.toNat ({r4 with d:=d27})).map jE)] (⟨Ar,cr,Aw,cw,Aa,ca,rfl⟩)<|aa 3 fun _=>ah (rq g ({W with aF:=W.aF.set x.to.toNat {r4 with d:=d27}})) [18] cJ ?_
     rintro _ _ ⟨rfl,rfl⟩
     refine aa 1 fun _=>dQ<|a_ [19,1,20] (⟨{W with aF:=W.aF.set x.to.toNat {r4 with d:=d27}},([]:List gL),kr,NV,(fj _).symm,rfl,ru f6 rfl,kr⟩)
   ·refine aa 11 fun _=>aO [(6,_)] [11,2] ⟨fJ (fun vs=>G6 r4.kb x.A x.c x.b r4.dk r4.d NT nv.aW (eF hx.len.2 (by decide)) hk8 Dk) [12] (fun vs=>.tuple #[sl none 0 0,iv 0]) [fun vs=>.k (kn r4.kb r4.dk ({r4.d with aW:=if 1099511627776<r4.d.aW+1 then 1099511627776 else r4.d.aW+1}))] qqi ko,trivial⟩ fun v35=>?_
    have NV:=hW.dropped f6
    refine aJ (xn ({r4 with d:= {r4.d with aW:=if 1099511627776<r4.d.aW+1 then 1099511627776 else r4.d.aW+1}})) [11,13] [bJ r4.rb 72 (.pointer (some ⟨r4.dk,0,none⟩)::.pointer (some ⟨r4.kb,0,none⟩)::c_.cells r4.s),kn r4.kb r4.dk ({r4.d with aW:=if 1099511627776<r4.d.aW+1 then 1099511627776 else r4.d.aW+1})] (.inl ⟨f7,rfl⟩)<|fQ 14 10 x.to.toNat jE W.aF ({r4 with d:= {r4.d with aW:=if 1099511627776<r4.d.aW+1 then 1099511627776 else r4.d.aW+1}}) hi<|aS mE 5 Ar cr (W.aF.map (·.rb)) ((W.aF.set x.to.toNat ({r4 with d:= {r4.d with aW:=if 1099511627776<r4.d.aW+1 then 1099511627776 else r4.d.aW+1}})).map (·.rb)) kr (gP (r':= {r4 with d:= {r4.d with aW:=if 1099511627776<r4.d.aW+1 then 1099511627776 else r4.d.aW+1}}) f6 rfl).symm<|bP 4 g 65 EY [sl Ar (((W.aF.set x.to.toNat ({r4 with d:= {r4.d with aW:=if 1099511627776<r4.d.aW+1 then 1099511627776 else r4.d.aW+1}})).map (·.rb)).length) cr,sl Aw W.row.length cw,iv W.fO,sl Aa W.fu.length ca] kr (by rw [gP (r':= {r4 with d:= {r4.d with aW:=if 1099511627776<r4.d.aW+1 then 1099511627776 else r4.d.aW+1}}) f6 rfl])<|aJ (nc g ({W with aF:=W.aF.set x.to.toNat {r4 with d:= {r4.d with aW:=if 1099511627776<r4.d.aW+1 then 1099511627776 else r4.d.aW+1}}})) [4,16,6,7,15] [bJ g 65 [sl Ar (((W.aF.set x.to.toNat ({r4 with d:= {r4.d with aW:=if 1099511627776<r4.d.aW+1 then 1099511627776 else r4.d.aW+1}})).map (·.rb)).length) cr,sl Aw W.row.length cw,iv W.fO,sl Aa W.fu.length ca],mE.row Ar cr ((W.aF.set x.to.toNat ({r4 with d:= {r4.d with aW:=if 1099511627776<r4.d.aW+1 then 1099511627776 else r4.d.aW+1}})).map (·.rb)),mF.row Aw cw W.row,pc.row Aa ca W.fu,aM.all ((W.aF.set x.to.toNat ({r4 with d:= {r4.d with aW:=if 1099511627776<r4.d.aW+1 then 1099511627776 else r4.d.aW+1}})).map jE)] (⟨Ar,cr,Aw,cw,Aa,ca,rfl⟩)<|aa 3 fun _=>ah (rq g ({W with aF:=W.aF.set x.to.toNat {r4 with d:= {r4.d with aW:=if 1099511627776<r4.d.aW+1 then 1099511627776 else r4.d.aW+1}}})) [17] cJ ?_
    rintro _ _ ⟨rfl,rfl⟩
    refine aa 1 fun _=>dQ<|a_ [18,1,19] (⟨{W with aF:=W.aF.set x.to.toNat {r4 with d:= {r4.d with aW:=if 1099511627776<r4.d.aW+1 then 1099511627776 else r4.d.aW+1}}},([]:List gL),kr,NV,(fj _).symm,rfl,ru f6 rfl,kr⟩)
  ·exact absurd (f7.symm.trans SY) (by decide)
end
section
section
variable {n k i:Nat} {W:kX} {r r':m'}
def WI.IU (h:WI n k W) (hr:W.aF[i]? =some r) {w x:Int} (hw:0≤w∧w≤4∧0≤x∧x<r.d.hv.length):WI n k {W with aF:=W.aF.set i {r with d:= {r.d with wait:=w,dT:=x}}}:=by
 have h0:=h.rep i r hr
 exact h.set hr (bO _) h.k0 ⟨h0.rep,h0.len,h0.vec,h0.chain,h0.ops,h0.held,h0.hl,h0.own,h0.aW,by rw [← h0.len];exact hw⟩ (fun _ h=>h) fun o ho=>ql3
def SX (h:WI n k W) (hr:W.aF[i]? =some r) (W2:kX) {t:Int} (hf:gN ⟨r.d.rep,t,1,r.d.hv,[]⟩):tu n W2 ⟨r.d.rep,t,1,r.d.hv,[]⟩:=by
 have h0:=h.rep i r hr
 have hi:=(aN.1 hr).1
 have hlen:=h.len
 exact ⟨hf,by show r.d.rep<n;rw [h0.rep];omega,fun _=>h0.len,fun o ho=>by cases ho⟩
def IV (hr:W.aF[i]? =some r) (q:m'):(W.aF.set i q)[i]? =some q:=gO (aN.1 hr).1
def NQ (h:ma n k i r) (hn:n≤4) (hi:i<n):1≤r.d.hv.length∧r.d.hv.length≤16∧0≤r.d.rep∧r.d.rep<r.d.hv.length∧0≤r.d.dT∧r.d.dT<r.d.hv.length∧0≤r.d.wait∧r.d.wait≤4:=by
 have h1:=h.len;have h2:=h.rep;have h3:=h.wn
 omega
end
def NR (g:Nat) (r:m') (c:Int) (W:kX) (n k i:Nat) (hW:WI n k W) (hr:W.aF[i]? =some r) (hu:r.up=true):Ct Cp 30 #[pv g,.pointer (some ⟨r.rb,0,none⟩),iv c] (fun _=>True) [pF g W] (fun v Cs=>(∃(W2:kX),∃l,v=.tuple #[]∧WI n k W2∧W2.row=W.row++l∧W2.fu=W.fu∧W2.aF.map (·.up)=W.aF.map (·.up)∧Cs= [pF g W2,aM.all (l.map gL.own)])):=by
 refine Fz [.k (pF g W)] Tryz.func30 fun U w0 hp=>dQ<|ed 0 (σ:=Int×kX×m'×List gL) (fun (c1,W1,r1,m)=> [(0,pv g),(1,.pointer (some ⟨r1.rb,0,none⟩)),(2,iv c1)]) (fun (c1,W1,r1,m)=> [.k (pF g W1),.k (aM.all (m.map gL.own))]) (fun (c1,W1,r1,m)=>c1≤200∧WI n k W1∧W1.row=W.row++m∧W1.fu=W.fu∧W1.aF.map (·.up)=W.aF.map (·.up)∧W1.aF[i]? =some r1∧r1.up=true) (fun (c1,W1,r1,m)=>c1.toNat) ?_ ?_
 ·intro _ cG
  refine aa 9 fun _=>cG _ (if 200<(if 1>c then 1 else c) then 200 else if 1>c then 1 else c,W,r,[]) [0,1] kr ⟨by split<;>(try split)<;>omega,hW,(fj _).symm,rfl,rfl,hr,hu⟩
 ·rintro _ ⟨c1,W1,r1,m⟩ ⟨Il,NS,h2,h3,h4,pG,Q_⟩ dm
  refine aa 5 fun _=>aq (c1>0) (fun h1=>?_) (fun h1=>?_)
  ·have hlen:=NS.len
   have Ra:=NS.n0
   have hi:=(aN.1 pG).1
   have nv:=NS.rep _ _ pG
   have NT:=nv.pM Ra.2 (rn NS pG)
   have IW:=NQ nv Ra.2 (by omega)
   refine bn (φ:=nc g W1) 0 ?_
   rintro _ ⟨Ar,cr,Aw,cw,Aa,ca,rfl⟩
   refine dB 2 g 65 qe5<|gu 6 i jE W1.aF r1 pG kr<|bn (φ:=xn r1) 7 ?_
   rintro _ (⟨_,rfl⟩|⟨SY,rfl⟩)
   ·refine dB 9 r1.rb 72 (.pointer (some ⟨r1.dk,0,none⟩)::.pointer (some ⟨r1.kb,0,none⟩)::c_.cells r1.s)<|ae 6 [9] fun _=>ah (SZ r1.kb r1.dk r1.d NT nv.vec IW) [10] cJ ?_
    rintro _ _ (⟨CB,o9,rfl,f11,rfl⟩|⟨kY,kZ,NU,xp,wk,rfl,f17,f18,rfl⟩)
    ·have NV:=NS.IU pG f11
     refine aJ (xn ({r1 with d:= {r1.d with wait:=CB,dT:=o9}})) [9,11] [bJ r1.rb 72 (.pointer (some ⟨r1.dk,0,none⟩)::.pointer (some ⟨r1.kb,0,none⟩)::c_.cells r1.s),kn r1.kb r1.dk ({r1.d with wait:=CB,dT:=o9})] (.inl ⟨Q_,rfl⟩)<|fQ 12 8 i jE W1.aF ({r1 with d:= {r1.d with wait:=CB,dT:=o9}}) hi<|aS mE 3 Ar cr (W1.aF.map (·.rb)) ((W1.aF.set i ({r1 with d:= {r1.d with wait:=CB,dT:=o9}})).map (·.rb)) kr (gP (r':= {r1 with d:= {r1.d with wait:=CB,dT:=o9}}) pG rfl).symm<|bP 2 g 65 qe5 [sl Ar (((W1.aF.set i ({r1 with d:= {r1.d with wait:=CB,dT:=o9}})).map (·.rb)).length) cr,sl Aw W1.row.length cw,iv W1.fO,sl Aa W1.fu.length ca] kr (by rw [gP (r':= {r1 with d:= {r1.d with wait:=CB,dT:=o9}}) pG rfl])<|aJ (nc g ({W1 with aF:=W1.aF.set i {r1 with d:= {r1.d with wait:=CB,dT:=o9}}})) [2,14,4,5,13] [bJ g 65 [sl Ar (((W1.aF.set i ({r1 with d:= {r1.d with wait:=CB,dT:=o9}})).map (·.rb)).length) cr,sl Aw W1.row.length cw,iv W1.fO,sl Aa W1.fu.length ca],mE.row Ar cr ((W1.aF.set i ({r1 with d:= {r1.d with wait:=CB,dT:=o9}})).map (·.rb)),mF.row Aw cw W1.row,pc.row Aa ca W1.fu,aM.all ((W1.aF.set i ({r1 with d:= {r1.d with wait:=CB,dT:=o9}})).map jE)] (⟨Ar,cr,Aw,cw,Aa,ca,rfl⟩)<|aa 10 fun _=>ah (rq g ({W1 with aF:=W1.aF.set i {r1 with d:= {r1.d with wait:=CB,dT:=o9}}})) [15] cJ ?_
     rintro _ _ ⟨rfl,rfl⟩
     refine aa 5 fun _=>ao 25 (c1-1)<|aa 2 fun _=>dm _ (c1-1,{W1 with aF:=W1.aF.set i {r1 with d:= {r1.d with wait:=CB,dT:=o9}}},{r1 with d:= {r1.d with wait:=CB,dT:=o9}},m) [16,1] kr ⟨by omega,NV,h2,h3,(ru (r':= {r1 with d:= {r1.d with wait:=CB,dT:=o9}}) pG rfl).trans h4,IV pG _,Q_⟩ du
    ·have NV:=NS.IU pG f17
     refine aJ (xn ({r1 with d:= {r1.d with wait:=kY,dT:=kZ}})) [9,11] [bJ r1.rb 72 (.pointer (some ⟨r1.dk,0,none⟩)::.pointer (some ⟨r1.kb,0,none⟩)::c_.cells r1.s),kn r1.kb r1.dk ({r1.d with wait:=kY,dT:=kZ})] (.inl ⟨Q_,rfl⟩)<|fQ 13 8 i jE W1.aF ({r1 with d:= {r1.d with wait:=kY,dT:=kZ}}) hi<|aS mE 3 Ar cr (W1.aF.map (·.rb)) ((W1.aF.set i ({r1 with d:= {r1.d with wait:=kY,dT:=kZ}})).map (·.rb)) kr (gP (r':= {r1 with d:= {r1.d with wait:=kY,dT:=kZ}}) pG rfl).symm<|bP 2 g 65 qe5 [sl Ar (((W1.aF.set i ({r1 with d:= {r1.d with wait:=kY,dT:=kZ}})).map (·.rb)).length) cr,sl Aw W1.row.length cw,iv W1.fO,sl Aa W1.fu.length ca] kr (by rw [gP (r':= {r1 with d:= {r1.d with wait:=kY,dT:=kZ}}) pG rfl])<|aJ (nc g ({W1 with aF:=W1.aF.set i {r1 with d:= {r1.d with wait:=kY,dT:=kZ}}})) [2,15,4,5,14] [bJ g 65 [sl Ar (((W1.aF.set i ({r1 with d:= {r1.d with wait:=kY,dT:=kZ}})).map (·.rb)).length) cr,sl Aw W1.row.length cw,iv W1.fO,sl Aa W1.fu.length ca],mE.row Ar cr ((W1.aF.set i ({r1 with d:= {r1.d with wait:=kY,dT:=kZ}})).map (·.rb)),mF.row Aw cw W1.row,pc.row Aa ca W1.fu,aM.all ((W1.aF.set i ({r1 with d:= {r1.d with wait:=kY,dT:=kZ}})).map jE)] (⟨Ar,cr,Aw,cw,Aa,ca,rfl⟩) ?_
     have S0:=SX NS pG ({W1 with aF:=W1.aF.set i {r1 with d:= {r1.d with wait:=kY,dT:=kZ}}}) f18
     refine aa 10 fun _=>ah (IX g xp wk (fR ⟨r1.d.rep,NU,1,r1.d.hv,[]⟩) ({W1 with aF:=W1.aF.set i {r1 with d:= {r1.d with wait:=kY,dT:=kZ}}}) (⟨r1.d.rep,NU,1,r1.d.hv,[]⟩) rfl S0.ok ((xq S0.ok).2) NS.row) [16,12] cJ ?_
     rintro _ _ ⟨l19,adb,rfl,f21,f22,rfl⟩
     refine aa 5 fun _=>ao 25 (c1-1)<|aa 2 fun _=>pN 1 18 gL.own m l19<|dm _ (c1-1,{({W1 with aF:=W1.aF.set i {r1 with d:= {r1.d with wait:=kY,dT:=kZ}}}) with row:=({W1 with aF:=W1.aF.set i {r1 with d:= {r1.d with wait:=kY,dT:=kZ}}}).row++l19,fO:=adb},{r1 with d:= {r1.d with wait:=kY,dT:=kZ}},m++l19) [17,19] kr ⟨by omega,NV.Rb (Em S0 f21) f22,by show W1.row++_=_;rw [h2,cH],h3,(ru (r':= {r1 with d:= {r1.d with wait:=kY,dT:=kZ}}) pG rfl).trans h4,IV pG _,Q_⟩ du
   ·exact absurd (Q_.symm.trans SY) (by decide)
  ·refine aa 1 fun _=>CC<|a_ [0,1] (⟨W1,m,kr,NS,h2,h3,h4,kr⟩)
end
