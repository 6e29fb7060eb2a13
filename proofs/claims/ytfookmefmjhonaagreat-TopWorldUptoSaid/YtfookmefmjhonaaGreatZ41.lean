/- For the law of worlds: What functions do; What lies in memory. -/
import Derived.Test.YtfookmefmjhonaaGreatZ40
set_option linter.all false
namespace Go.Proofs.YtfookmefmjhonaaGreat.My
open Go.RowKit Go.bE
section
def Sj (j:Nat) (r:m'):Prop:=r.d=aj j r.d.hv r.d.ops
structure Step (a:dz) (W W2:kX):Prop where
 rest:a.kind≠7→a.kind≠8→W2.aF.map (·.up)=W.aF.map (·.up)
 other:a.kind=7∨a.kind=8→ ∀j:Nat,(j:Int)≠a.rep→W2.aF[j]? =W.aF[j]?
 off:a.kind=7→ ∀(j:Nat) (r:m'),(j:Int)=a.rep→W.aF[j]? =some r→ ∃r2,W2.aF[j]? =some r2∧r2.up=false
 on:a.kind=8→ ∀(j:Nat) (r:m'),(j:Int)=a.rep→W.aF[j]? =some r→ ∃r2,W2.aF[j]? =some r2∧r2.up=true∧(r.up=true→r2=r)∧(r.up=false→Sj j r2)
 fu:a.kind=1→ ∀r,0≤a.rep→W.aF[a.rep.toNat]? =some r→r.up=true→ ∃x,W2.fu=W.fu++ [x]∧(Wk a.fX r.d→x.e=0)
 al:W2.fu.length≤W.fu.length+1
section
variable {n k i:Nat} {W W2:kX} {r r':m'} {a:dz}
def WI.mono {k':Nat} (h:WI n k W) (hk:k≤k') (h0:k'≤100):WI n k' W:=⟨h.n0,h0,h.len,fun i r e=>(h.rep i r e).mono hk,h.own,h.Ag,h.row⟩
def WI.ZX (h:WI n k W) (l:List vk):WI n k {W with fu:=l}:=⟨h.n0,h.k0,h.len,h.rep,h.own,fun x hx=>⟨(h.Ag x hx).len,(h.Ag x hx).Ae.imp (fun ⟨f,a,b,c⟩=>⟨f,a,b,⟨c.ok,c.fN,c.hv,c.ops⟩⟩) id⟩,h.row⟩
def Step.quiet (h7:a.kind≠7) (h8:a.kind≠8) (h1:a.kind≠1) (e:W2.fu=W.fu) (u:W2.aF.map (·.up)=W.aF.map (·.up)):Step a W W2:=⟨fun _ _=>u,fun h=>by omega,fun h=>absurd h h7,fun h=>absurd h h8,fun h=>absurd h h1,by rw [e];omega⟩
def Step.none (hn: ∀r,0≤a.rep→W.aF[a.rep.toNat]? =some r→r.up=false) (h8:a.kind≠8):Step a W W:=⟨fun _ _=>rfl,fun _ _ _=>rfl,fun _ j r e hr=>⟨r,hr,hn r (by omega) qro⟩,fun h=>absurd h h8,fun _ r h0 hr hu=>absurd ((hn r h0 hr).symm.trans hu) (by decide),by omega⟩
def Step.started (h0:0≤a.rep) (hr:W.aF[a.rep.toNat]? =some r) (hu:r.up=false) (h8:a.kind=8) (g2:Nat):Step a W {W with aF:=W.aF.set a.rep.toNat {r with up:=true,kb:=g2,d:=aj a.rep r.d.hv r.d.ops}}:=by
 have hi:=(aN.1 hr).1
 refine ⟨fun _ h=>absurd h8 h,fun _ j hj=>lX (by omega),fun h=>by omega,fun _ j q e hq=>?_,fun h=>by omega,by show W.fu.length≤_;omega⟩
 have ej:a.rep.toNat=j:=by omega
 rw [ej,hq] at hr
 injection hr with hr
 subst hr
 refine ⟨_,by rw [ej];exact gO (by omega),rfl,fun h=>absurd (hu.symm.trans h) (by decide),fun _=>?_⟩
 show aj a.rep _ _=aj (j:Int) _ _
 rw [e];rfl
def Step.there (h8:a.kind=8) (hn: ∀r,0≤a.rep→W.aF[a.rep.toNat]? =some r→r.up=true):Step a W W:=⟨fun _ _=>rfl,fun _ _ _=>rfl,fun h=>by omega,fun _ j r e hr=>by
 have hu:=hn r (by omega) qro
 exact ⟨r,hr,hu,fun _=>rfl,fun h=>absurd (hu.symm.trans h) (by decide)⟩,fun h=>by omega,by omega⟩
def WI.started (h:WI n k W) (hr:W.aF[i]? =some r) (g2:Nat):WI n k {W with aF:=W.aF.set i {r with up:=true,kb:=g2,d:=aj i r.d.hv r.d.ops}}:=by
 have h0:=h.rep i r hr
 have hi:=(aN.1 hr).1
 have hl:=h.len
 exact h.set hr (bO _) h.k0 ⟨rfl,h0.len,h0.vec,h0.chain,h0.ops,(fun o ho=>by cases ho),bh _,h0.own,⟨by show (0:Int)≤0;omega,by show (0:Int)≤_;omega⟩,⟨by show (0:Int)≤0;omega,by show (0:Int)≤_;omega,by show (0:Int)≤0;omega,by show (0:Int)<_;omega⟩⟩ (fun _ h=>h) fun o ho=>.inl (h.own r (aI hr) o (.inl (ho.elim id fun h=>by cases h)))
def WI.crashed (h:WI n k W) (hr:W.aF[i]? =some r) (dk:Nat) (s:c_):WI n k {W with aF:=W.aF.set i {r with dk:=dk,up:=false,s:=s}}:=by
 have h0:=h.rep i r hr
 exact h.set hr (bO _) h.k0 ⟨h0.rep,h0.len,h0.vec,h0.chain,h0.ops,h0.held,h0.hl,h0.own,h0.aW,h0.wn⟩ (fun _ h=>h) fun o ho=>ql3
def Step.crashed (h7:a.kind=7) (h0:0≤a.rep) (hr:W.aF[a.rep.toNat]? =some r) (dk:Nat) (s:c_):Step a W {W with aF:=W.aF.set a.rep.toNat {r with dk:=dk,up:=false,s:=s}}:=by
 have hi:=(aN.1 hr).1
 refine ⟨fun h=>absurd h7 h,fun _ j hj=>lX (by omega),fun _ j q e hq=>?_,fun h=>by omega,fun h=>by omega,by show W.fu.length≤_;omega⟩
 have ej:a.rep.toNat=j:=by omega
 exact ⟨_,by rw [ej];exact gO (by omega),rfl⟩
def Step.did (h1:a.kind=1) (hr:W.aF[a.rep.toNat]? =some r) (e:W2.aF=W.aF.set a.rep.toNat r') (u:r'.up=r.up) {x:vk} (ea:W2.fu=W.fu++ [x]) (hx:Wk a.fX r.d→x.e=0):Step a W W2:=⟨fun _ _=>by rw [e];exact ru hr u,fun h=>by omega,fun h=>by omega,fun h=>by omega,fun _ q _ hq _=>by
 rw [hr] at hq
 injection hq with hq
 subst hq
 exact ⟨x,ea,hx⟩,by rw [ea];simp⟩
end
def ZY (g:Nat) (a:dz) (W:kX) (n k:Nat) (hW:WI n k W) (hk:k+1≤100) (hpk:a.fo.length≤a.c) (OF:W.fu.length≤1000):hO Cp 15 #[pv g,.agg #[iv a.kind,iv a.rep,iv a.fX.kind,iv a.fX.node.t,iv a.fX.node.r,iv a.fX.par.t,iv a.fX.par.r,iv a.fX.oA.t,iv a.fX.oA.r,iv a.fX.prop,iv a.fX.val,iv a.fX.width,iv a.wh,iv a.num,iv a.ug,sl a.A a.fo.length a.c]] (fun U w=>az.gx a.A a.fo U w) [pF g W,aM.all (W.row.map gL.own)] (fun v Cs=>(∃(W2:kX),v=.tuple #[]∧WI n (k+1) W2∧Step a W W2∧Cs= [pF g W2,aM.all (W2.row.map gL.own)])):=by
 refine kz [.k (pF g W),.k (aM.all (W.row.map gL.own))] Tryz.func15 fun U w0 hp=>?_
 have hlw:=hW.len
 have Ra:=hW.n0
 refine ae 17 [2] fun a8=>dj (σ:=Bool) qh3 qbq (fun z=>(z=true→3≤a.kind∧a.kind≤6)∧(z=false→ ¬ (3≤a.kind∧a.kind≤6))) ?_ ?_
 ·rintro z ⟨I4,wu⟩
  refine eg 9 z (fun h2=>?_) (fun h2=>?_)
  ·refine ae 5 [2] fun _=>ah (YI g a W n k hW) [0,1] cJ ?_
   rintro _ _ (⟨W7,rfl,f8,f9,f10,rfl⟩)
   ·refine aa 1 fun _=>a_ [3,4] (⟨W7,kr,(f8).mono (Nat.le_succ k) hk,Step.quiet qst qst qst f9 f10,kr⟩)
  ·refine aa 6 fun _=>aq (a.kind=8) (fun kx=>?_) (fun kx=>?_)
   ·refine ae 5 [2] fun _=>ah (PM g a.rep W n k hW) [0] cJ ?_
    rintro _ _ (⟨r13,g14,rfl,f15,f16,f17,rfl⟩|⟨rfl,f18,rfl⟩)
    ·refine aa 1 fun _=>?_
     have Lp:=hW.started f16 g14
     rw [iR f15] at Lp
     exact a_ [3,1] (⟨{W with aF:=W.aF.set a.rep.toNat {r13 with up:=true,kb:=g14,d:=aj a.rep r13.d.hv r13.d.ops}},kr,(Lp).mono (Nat.le_succ k) hk,Step.started f15 f16 f17 kx g14,kr⟩)
    ·refine aa 1 fun _=>a_ [3,1] (⟨W,kr,(hW).mono (Nat.le_succ k) hk,Step.there kx f18,kr⟩)
   ·refine ae 7 [2] fun _=>ah (Lw g a.rep W (by omega)) [0] cJ ?_
    rintro _ _ (⟨rfl,f20,rfl⟩|⟨eo,rfl,f22,f23,f24,rfl⟩)
    ·refine aa 9 fun _=>a_ [3,1] (⟨W,kr,(hW).mono (Nat.le_succ k) hk,Step.none f20 kx,kr⟩)
    ·have nv:=hW.rep _ _ f23
     have vh:=rn hW f23
     have NT:=nv.pM Ra.2 vh
     have hi:=(aN.1 f23).1
     refine ae 21 [2] fun _=>aq (a.kind=1) (fun vG=>?_) (fun vG=>?_)
     ·refine aa 1 fun _=>bn (φ:=nc g W) 3 ?_
      rintro _ ⟨Ar,cr,Aw,cw,Aa,ca,rfl⟩
      refine dB 4 g 65 EY<|gu 8 a.rep.toNat jE W.aF eo f23 kr<|bn (φ:=xn eo) 9 ?_
      rintro _ (⟨_,rfl⟩|⟨SY,rfl⟩)
      ·refine dB 11 eo.rb 72 (.pointer (some ⟨eo.dk,0,none⟩)::.pointer (some ⟨eo.kb,0,none⟩)::c_.cells eo.s)<|aO [(6,_)] [11,2,14] ⟨aY (fun vs=>(aeh eo.kb a.fX eo.dk eo.d NT nv.vec (by have h1:=nv.len;have h2:=nv.rep;omega) (PN fun o ho=>(nv.ops o ho).1) (fun y hy=>qrz) (by omega)).g9) [12] (fun vs=>.tuple #[.agg #[gi (tp (vs 6) 0) 0,gi (tp (vs 6) 0) 1,gi (tp (vs 6) 0) 2,gs (tp (vs 6) 0) 3,gi (tp (vs 6) 0) 4,gi (tp (vs 6) 0) 5,.complex .f64 (dK (ag (tp (vs 6) 0) 6)) (dL (ag (tp (vs 6) 0) 6)),.complex .f64 (dK (ag (tp (vs 6) 0) 7)) (dL (ag (tp (vs 6) 0) 7)),gs (tp (vs 6) 0) 8],iv (dH (tp (vs 6) 1))]) [fun vs=>.k (g9 ((fun v Cs=>(∃(o_:bz) (v2:List Int),∃h2 tk,∃(at_ ar:Int),v=.tuple #[.agg #[iv 0,iv at_,iv ar,sl none 0 0,iv 0,iv 0,.complex .f64 0 0,.complex .f64 0 0,sl none 0 0],iv 0]∧qk eo.d a.fX o_∧kH eo.d.hv eo.d.held o_ v2 h2 tk∧Cs= [kn eo.kb eo.dk ({eo.d with hv:=v2,held:=h2,ops:=eo.d.ops++tk})])∨(∃(e:Int),∃Ha nh,∃(Hc:Nat) (gt gr:Int) (z1 z2 z3 z4:Nat),∃Ka nk,∃(Kc:Nat),v=.tuple #[.agg #[iv e,iv 0,iv 0,sl Ha nh Hc,iv gt,iv gr,.complex .f64 z1 z2,.complex .f64 z3 z4,sl Ka nk Kc],iv 0]∧ ¬Wk a.fX eo.d∧Cs= [kn eo.kb eo.dk eo.d])) (vs 6)))] nE (fun vs u C h=>by obtain ⟨⟨_,h⟩,rfl⟩:=h;refine ⟨?_,rfl⟩;rcases h with ⟨_,_,_,_,_,_,rfl,_,_,_⟩|⟨_,_,_,_,_,_,_,_,_,_,_,_,_,rfl,_,_⟩<;>rfl),trivial⟩ fun fF=>?_
       refine bn (φ:=(fun v Cs=>(∃(o_:bz) (v2:List Int),∃h2 tk,∃(at_ ar:Int),v=.tuple #[.agg #[iv 0,iv at_,iv ar,sl none 0 0,iv 0,iv 0,.complex .f64 0 0,.complex .f64 0 0,sl none 0 0],iv 0]∧qk eo.d a.fX o_∧kH eo.d.hv eo.d.held o_ v2 h2 tk∧Cs= [kn eo.kb eo.dk ({eo.d with hv:=v2,held:=h2,ops:=eo.d.ops++tk})])∨(∃(e:Int),∃Ha nh,∃(Hc:Nat) (gt gr:Int) (z1 z2 z3 z4:Nat),∃Ka nk,∃(Kc:Nat),v=.tuple #[.agg #[iv e,iv 0,iv 0,sl Ha nh Hc,iv gt,iv gr,.complex .f64 z1 z2,.complex .f64 z3 z4,sl Ka nk Kc],iv 0]∧ ¬Wk a.fX eo.d∧Cs= [kn eo.kb eo.dk eo.d])) (fF 6)) 13 ?_
       rintro _ (⟨asq,HE,HF,rR,lK,qG,Uo,f82,f83,rfl⟩|⟨Fj,qH,qI,qJ,qK,qM,Fk,Fl,Fm,Fo,qN,qO,qP,Uo,f97,rfl⟩)
       ·refine aC 40 (.tuple #[.agg #[iv 0,iv lK,iv qG,sl none 0 0,iv 0,iv 0,.complex .f64 0 0,.complex .f64 0 0,sl none 0 0],iv 0]) (.tuple #[.agg #[gi (tp (fF 6) 0) 0,gi (tp (fF 6) 0) 1,gi (tp (fF 6) 0) 2,gs (tp (fF 6) 0) 3,gi (tp (fF 6) 0) 4,gi (tp (fF 6) 0) 5,.complex .f64 (dK (ag (tp (fF 6) 0) 6)) (dL (ag (tp (fF 6) 0) 6)),.complex .f64 (dK (ag (tp (fF 6) 0) 7)) (dL (ag (tp (fF 6) 0) 7)),gs (tp (fF 6) 0) 8],iv (dH (tp (fF 6) 1))]) II<|aC 33 (.tuple #[.agg #[iv 0,iv lK,iv qG,sl none 0 0,iv 0,iv 0,.complex .f64 0 0,.complex .f64 0 0,sl none 0 0],iv 0]) (.tuple #[.agg #[gi (tp (fF 6) 0) 0,gi (tp (fF 6) 0) 1,gi (tp (fF 6) 0) 2,gs (tp (fF 6) 0) 3,gi (tp (fF 6) 0) 4,gi (tp (fF 6) 0) 5,.complex .f64 (dK (ag (tp (fF 6) 0) 6)) (dL (ag (tp (fF 6) 0) 6)),.complex .f64 (dK (ag (tp (fF 6) 0) 7)) (dL (ag (tp (fF 6) 0) 7)),gs (tp (fF 6) 0) 8],iv (dH (tp (fF 6) 1))]) II<|aC 41 (.agg #[iv 0,iv lK,iv qG,sl none 0 0,iv 0,iv 0,.complex .f64 0 0,.complex .f64 0 0,sl none 0 0]) (.agg #[gi (tp (fF 6) 0) 0,gi (tp (fF 6) 0) 1,gi (tp (fF 6) 0) 2,gs (tp (fF 6) 0) 3,gi (tp (fF 6) 0) 4,gi (tp (fF 6) 0) 5,.complex .f64 (dK (ag (tp (fF 6) 0) 6)) (dL (ag (tp (fF 6) 0) 6)),.complex .f64 (dK (ag (tp (fF 6) 0) 7)) (dL (ag (tp (fF 6) 0) 7)),gs (tp (fF 6) 0) 8]) II<|aC 42 (iv 0) (iv (dH (tp (fF 6) 1))) II<|aC 6 (iv 0) (iv (dH (tp (fF 6) 1))) II<|aD 15 (bJ (a5 (fF 10)) 88 [gi (tp (fF 6) 0) 0,gi (tp (fF 6) 0) 1,gi (tp (fF 6) 0) 2,gs (tp (fF 6) 0) 3,gi (tp (fF 6) 0) 4,gi (tp (fF 6) 0) 5,.complex .f64 (dK (ag (tp (fF 6) 0) 6)) (dL (ag (tp (fF 6) 0) 6)),.complex .f64 (dK (ag (tp (fF 6) 0) 7)) (dL (ag (tp (fF 6) 0) 7)),gs (tp (fF 6) 0) 8]) (bJ (a5 (fF 10)) 88 [iv 0,iv lK,iv qG,sl none 0 0,iv 0,iv 0,.complex .f64 0 0,.complex .f64 0 0,sl none 0 0]) kr II<|dB 17 (a5 (fF 10)) 88 [iv 0,iv lK,iv qG,sl none 0 0,iv 0,iv 0,.complex .f64 0 0,.complex .f64 0 0,sl none 0 0]<|aa 8 fun _=>aO [(7,_)] [4,17,4] ⟨ib pc 7 (fun vs=>Aa) (fun vs=>ca) (fun vs=>W.fu) (fun vs=>some ⟨(a5 (vs 6)),0,none⟩) (fun vs=>1) (fun vs=>1) (fun vs=> [(⟨0,lK,qG,none,0,0,0,0,0,0,0,0,none,0,0⟩:vk)]) (fun vs w h=>h.eT 17 (a5 (vs 6)) 88 (List.flatMap pc.f [(⟨0,lK,qG,none,0,0,0,0,0,0,0,0,none,0,0⟩:vk)]) kr),trivial⟩ fun vS=>aa 1 fun _=>aJ (xn ({eo with d:= {eo.d with hv:=HE,held:=HF,ops:=eo.d.ops++rR}})) [11,16] [bJ eo.rb 72 (.pointer (some ⟨eo.dk,0,none⟩)::.pointer (some ⟨eo.kb,0,none⟩)::c_.cells eo.s),kn eo.kb eo.dk ({eo.d with hv:=HE,held:=HF,ops:=eo.d.ops++rR})] (.inl ⟨f24,rfl⟩) ?_
        refine fQ 21 10 a.rep.toNat jE W.aF ({eo with d:= {eo.d with hv:=HE,held:=HF,ops:=eo.d.ops++rR}}) hi<|aS mE 5 Ar cr (W.aF.map (·.rb)) ((W.aF.set a.rep.toNat ({eo with d:= {eo.d with hv:=HE,held:=HF,ops:=eo.d.ops++rR}})).map (·.rb)) kr (gP (r':= {eo with d:= {eo.d with hv:=HE,held:=HF,ops:=eo.d.ops++rR}}) f23 rfl).symm<|bP 20 g 65 [sl Ar ((W.aF.map (·.rb)).length) cr,sl Aw W.row.length cw,iv W.fO,sl (ak (vS 7)) ((W.fu++ [(⟨0,lK,qG,none,0,0,0,0,0,0,0,0,none,0,0⟩:vk)]).length) (an (vS 7))] [sl Ar (((W.aF.set a.rep.toNat ({eo with d:= {eo.d with hv:=HE,held:=HF,ops:=eo.d.ops++rR}})).map (·.rb)).length) cr,sl Aw W.row.length cw,iv W.fO,sl (ak (vS 7)) ((W.fu++ [(⟨0,lK,qG,none,0,0,0,0,0,0,0,0,none,0,0⟩:vk)]).length) (an (vS 7))] kr (by rw [gP (r':= {eo with d:= {eo.d with hv:=HE,held:=HF,ops:=eo.d.ops++rR}}) f23 rfl])<|aJ (nc g ({W with aF:=W.aF.set a.rep.toNat {eo with d:= {eo.d with hv:=HE,held:=HF,ops:=eo.d.ops++rR}},fu:=W.fu++ [(⟨0,lK,qG,none,0,0,0,0,0,0,0,0,none,0,0⟩:vk)]})) [20,23,6,19,22] [bJ g 65 [sl Ar (((W.aF.set a.rep.toNat ({eo with d:= {eo.d with hv:=HE,held:=HF,ops:=eo.d.ops++rR}})).map (·.rb)).length) cr,sl Aw W.row.length cw,iv W.fO,sl (ak (vS 7)) ((W.fu++ [(⟨0,lK,qG,none,0,0,0,0,0,0,0,0,none,0,0⟩:vk)]).length) (an (vS 7))],mE.row Ar cr ((W.aF.set a.rep.toNat ({eo with d:= {eo.d with hv:=HE,held:=HF,ops:=eo.d.ops++rR}})).map (·.rb)),mF.row Aw cw W.row,pc.row (ak (vS 7)) (an (vS 7)) (W.fu++ [(⟨0,lK,qG,none,0,0,0,0,0,0,0,0,none,0,0⟩:vk)]),aM.all ((W.aF.set a.rep.toNat ({eo with d:= {eo.d with hv:=HE,held:=HF,ops:=eo.d.ops++rR}})).map jE)] (⟨Ar,cr,Aw,cw,ak (vS 7),an (vS 7),rfl⟩)<|a_ [24,1] (⟨{W with aF:=W.aF.set a.rep.toNat {eo with d:= {eo.d with hv:=HE,held:=HF,ops:=eo.d.ops++rR}},fu:=W.fu++ [(⟨0,lK,qG,none,0,0,0,0,0,0,0,0,none,0,0⟩:vk)]},kr,(hW.did f23 (by omega) f82 f83).ZX _,Step.did (r':= {eo with d:= {eo.d with hv:=HE,held:=HF,ops:=eo.d.ops++rR}}) vG f23 rfl rfl (x:=(⟨0,lK,qG,none,0,0,0,0,0,0,0,0,none,0,0⟩:vk)) rfl (fun _=>rfl),kr⟩)
       ·refine aC 40 (.tuple #[.agg #[iv Fj,iv 0,iv 0,sl qH qI qJ,iv qK,iv qM,.complex .f64 Fk Fl,.complex .f64 Fm Fo,sl qN qO qP],iv 0]) (.tuple #[.agg #[gi (tp (fF 6) 0) 0,gi (tp (fF 6) 0) 1,gi (tp (fF 6) 0) 2,gs (tp (fF 6) 0) 3,gi (tp (fF 6) 0) 4,gi (tp (fF 6) 0) 5,.complex .f64 (dK (ag (tp (fF 6) 0) 6)) (dL (ag (tp (fF 6) 0) 6)),.complex .f64 (dK (ag (tp (fF 6) 0) 7)) (dL (ag (tp (fF 6) 0) 7)),gs (tp (fF 6) 0) 8],iv (dH (tp (fF 6) 1))]) II<|aC 33 (.tuple #[.agg #[iv Fj,iv 0,iv 0,sl qH qI qJ,iv qK,iv qM,.complex .f64 Fk Fl,.complex .f64 Fm Fo,sl qN qO qP],iv 0]) (.tuple #[.agg #[gi (tp (fF 6) 0) 0,gi (tp (fF 6) 0) 1,gi (tp (fF 6) 0) 2,gs (tp (fF 6) 0) 3,gi (tp (fF 6) 0) 4,gi (tp (fF 6) 0) 5,.complex .f64 (dK (ag (tp (fF 6) 0) 6)) (dL (ag (tp (fF 6) 0) 6)),.complex .f64 (dK (ag (tp (fF 6) 0) 7)) (dL (ag (tp (fF 6) 0) 7)),gs (tp (fF 6) 0) 8],iv (dH (tp (fF 6) 1))]) II<|aC 41 (.agg #[iv Fj,iv 0,iv 0,sl qH qI qJ,iv qK,iv qM,.complex .f64 Fk Fl,.complex .f64 Fm Fo,sl qN qO qP]) (.agg #[gi (tp (fF 6) 0) 0,gi (tp (fF 6) 0) 1,gi (tp (fF 6) 0) 2,gs (tp (fF 6) 0) 3,gi (tp (fF 6) 0) 4,gi (tp (fF 6) 0) 5,.complex .f64 (dK (ag (tp (fF 6) 0) 6)) (dL (ag (tp (fF 6) 0) 6)),.complex .f64 (dK (ag (tp (fF 6) 0) 7)) (dL (ag (tp (fF 6) 0) 7)),gs (tp (fF 6) 0) 8]) II<|aC 42 (iv 0) (iv (dH (tp (fF 6) 1))) II<|aC 6 (iv 0) (iv (dH (tp (fF 6) 1))) II<|aD 15 (bJ (a5 (fF 10)) 88 [gi (tp (fF 6) 0) 0,gi (tp (fF 6) 0) 1,gi (tp (fF 6) 0) 2,gs (tp (fF 6) 0) 3,gi (tp (fF 6) 0) 4,gi (tp (fF 6) 0) 5,.complex .f64 (dK (ag (tp (fF 6) 0) 6)) (dL (ag (tp (fF 6) 0) 6)),.complex .f64 (dK (ag (tp (fF 6) 0) 7)) (dL (ag (tp (fF 6) 0) 7)),gs (tp (fF 6) 0) 8]) (bJ (a5 (fF 10)) 88 [iv Fj,iv 0,iv 0,sl qH qI qJ,iv qK,iv qM,.complex .f64 Fk Fl,.complex .f64 Fm Fo,sl qN qO qP]) kr II<|dB 17 (a5 (fF 10)) 88 [iv Fj,iv 0,iv 0,sl qH qI qJ,iv qK,iv qM,.complex .f64 Fk Fl,.complex .f64 Fm Fo,sl qN qO qP]<|aa 8 fun _=>aO [(7,_)] [4,17,4] ⟨ib pc 7 (fun vs=>Aa) (fun vs=>ca) (fun vs=>W.fu) (fun vs=>some ⟨(a5 (vs 6)),0,none⟩) (fun vs=>1) (fun vs=>1) (fun vs=> [(⟨Fj,0,0,qH,qI,qJ,qK,qM,Fk,Fl,Fm,Fo,qN,qO,qP⟩:vk)]) (fun vs w h=>h.eT 17 (a5 (vs 6)) 88 (List.flatMap pc.f [(⟨Fj,0,0,qH,qI,qJ,qK,qM,Fk,Fl,Fm,Fo,qN,qO,qP⟩:vk)]) kr),trivial⟩ fun vT=>aa 1 fun _=>aJ (xn ({eo with d:=eo.d})) [11,16] [bJ eo.rb 72 (.pointer (some ⟨eo.dk,0,none⟩)::.pointer (some ⟨eo.kb,0,none⟩)::c_.cells eo.s),kn eo.kb eo.dk eo.d] (.inl ⟨f24,rfl⟩) ?_
        refine fQ 21 10 a.rep.toNat jE W.aF ({eo with d:=eo.d}) hi<|aS mE 5 Ar cr (W.aF.map (·.rb)) ((W.aF.set a.rep.toNat ({eo with d:=eo.d})).map (·.rb)) kr (gP (r':= {eo with d:=eo.d}) f23 rfl).symm<|bP 20 g 65 [sl Ar ((W.aF.map (·.rb)).length) cr,sl Aw W.row.length cw,iv W.fO,sl (ak (vT 7)) ((W.fu++ [(⟨Fj,0,0,qH,qI,qJ,qK,qM,Fk,Fl,Fm,Fo,qN,qO,qP⟩:vk)]).length) (an (vT 7))] [sl Ar (((W.aF.set a.rep.toNat ({eo with d:=eo.d})).map (·.rb)).length) cr,sl Aw W.row.length cw,iv W.fO,sl (ak (vT 7)) ((W.fu++ [(⟨Fj,0,0,qH,qI,qJ,qK,qM,Fk,Fl,Fm,Fo,qN,qO,qP⟩:vk)]).length) (an (vT 7))] kr (by rw [gP (r':= {eo with d:=eo.d}) f23 rfl])<|aJ (nc g ({W with aF:=W.aF.set a.rep.toNat {eo with d:=eo.d},fu:=W.fu++ [(⟨Fj,0,0,qH,qI,qJ,qK,qM,Fk,Fl,Fm,Fo,qN,qO,qP⟩:vk)]})) [20,23,6,19,22] [bJ g 65 [sl Ar (((W.aF.set a.rep.toNat ({eo with d:=eo.d})).map (·.rb)).length) cr,sl Aw W.row.length cw,iv W.fO,sl (ak (vT 7)) ((W.fu++ [(⟨Fj,0,0,qH,qI,qJ,qK,qM,Fk,Fl,Fm,Fo,qN,qO,qP⟩:vk)]).length) (an (vT 7))],mE.row Ar cr ((W.aF.set a.rep.toNat ({eo with d:=eo.d})).map (·.rb)),mF.row Aw cw W.row,pc.row (ak (vT 7)) (an (vT 7)) (W.fu++ [(⟨Fj,0,0,qH,qI,qJ,qK,qM,Fk,Fl,Fm,Fo,qN,qO,qP⟩:vk)]),aM.all ((W.aF.set a.rep.toNat ({eo with d:=eo.d})).map jE)] (⟨Ar,cr,Aw,cw,ak (vT 7),an (vT 7),rfl⟩)<|a_ [24,1] (⟨{W with aF:=W.aF.set a.rep.toNat {eo with d:=eo.d},fu:=W.fu++ [(⟨Fj,0,0,qH,qI,qJ,qK,qM,Fk,Fl,Fm,Fo,qN,qO,qP⟩:vk)]},kr,((hW.same f23).mono (Nat.le_succ k) hk).ZX _,Step.did (r':= {eo with d:=eo.d}) vG f23 rfl rfl (x:=(⟨Fj,0,0,qH,qI,qJ,qK,qM,Fk,Fl,Fm,Fo,qN,qO,qP⟩:vk)) rfl (fun hw=>absurd hw f97),kr⟩)
      ·exact absurd (f24.symm.trans SY) (by decide)
     ·refine aa 5 fun _=>aq (a.kind=2) (fun agK=>?_) (fun agK=>?_)
      ·refine ae 5 [2] fun _=>ah (NR g eo a.num W n k a.rep.toNat hW f23 f24) [3] cJ ?_
       rintro _ _ (⟨ZZ,Z0,rfl,f111,f112,f113,f114,rfl⟩)
       ·refine aa 2 fun _=>pN 1 5 gL.own W.row Z0<|aD 6 (aM.all ((W.row++Z0).map gL.own)) (aM.all (ZZ.row.map gL.own)) kr (by rw [f112])<|a_ [4,7] (⟨ZZ,kr,(f111).mono (Nat.le_succ k) hk,Step.quiet (by omega) (by omega) (by omega) f113 f114,kr⟩)
      ·refine aa 5 fun _=>aq (a.kind=7) (fun UU=>?_) (fun UU=>?_)
       ·refine ae 4 [2] fun _=>bn (φ:=nc g W) 3 ?_
        rintro _ ⟨Ar,cr,Aw,cw,Aa,ca,rfl⟩
        refine dB 4 g 65 EY<|gu 8 a.rep.toNat jE W.aF eo f23 kr<|bD (Ls eo a.A a.c a.fo f24 NT T3) [9] Ad ?_
        rintro _ _ ⟨d116,vU,rfl,rfl⟩
        refine aa 2 fun _=>fQ 11 10 a.rep.toNat jE W.aF ({eo with dk:=d116,up:=false,s:=⟨eo.d,vU⟩}) hi<|aS mE 5 Ar cr (W.aF.map (·.rb)) ((W.aF.set a.rep.toNat ({eo with dk:=d116,up:=false,s:=⟨eo.d,vU⟩})).map (·.rb)) kr (gP (r':= {eo with dk:=d116,up:=false,s:=⟨eo.d,vU⟩}) f23 rfl).symm<|bP 4 g 65 EY [sl Ar (((W.aF.set a.rep.toNat ({eo with dk:=d116,up:=false,s:=⟨eo.d,vU⟩})).map (·.rb)).length) cr,sl Aw W.row.length cw,iv W.fO,sl Aa W.fu.length ca] kr (by rw [gP (r':= {eo with dk:=d116,up:=false,s:=⟨eo.d,vU⟩}) f23 rfl])<|aJ (nc g ({W with aF:=W.aF.set a.rep.toNat {eo with dk:=d116,up:=false,s:=⟨eo.d,vU⟩}})) [4,13,6,7,12] [bJ g 65 [sl Ar (((W.aF.set a.rep.toNat ({eo with dk:=d116,up:=false,s:=⟨eo.d,vU⟩})).map (·.rb)).length) cr,sl Aw W.row.length cw,iv W.fO,sl Aa W.fu.length ca],mE.row Ar cr ((W.aF.set a.rep.toNat ({eo with dk:=d116,up:=false,s:=⟨eo.d,vU⟩})).map (·.rb)),mF.row Aw cw W.row,pc.row Aa ca W.fu,aM.all ((W.aF.set a.rep.toNat ({eo with dk:=d116,up:=false,s:=⟨eo.d,vU⟩})).map jE)] (⟨Ar,cr,Aw,cw,Aa,ca,rfl⟩)<|a_ [14,1] (⟨{W with aF:=W.aF.set a.rep.toNat {eo with dk:=d116,up:=false,s:=⟨eo.d,vU⟩}},kr,(hW.crashed f23 _ _).mono (Nat.le_succ k) hk,Step.crashed UU f22 f23 _ _,kr⟩)
       ·refine aa 2 fun _=>a_ [3,1] (⟨W,kr,(hW).mono (Nat.le_succ k) hk,Step.quiet UU kx vG rfl rfl,kr⟩)
 ·intro _ jB
  refine aG 9 (a.kind=3) (fun agL=>?_) (fun agL=>?_)
  ·refine aa 2 fun _=>jB _ true [0,1,2] kr ⟨fun _=>by omega,fun e=>by cases e⟩
  ·refine aa 6 fun _=>dj (σ:=Bool) qh3 qbq (fun z=>(z=true→3≤a.kind∧a.kind≤6)∧(z=false→ ¬ (3≤a.kind∧a.kind≤6))) ?_ ?_
   ·rintro z ⟨I4,wu⟩
    exact jB _ z [0,1,2] kr ⟨I4,wu⟩
   ·intro _ gV
    refine aG 9 (a.kind=4) (fun agM=>?_) (fun agM=>?_)
    ·refine aa 2 fun _=>gV _ true [0,1,2] kr ⟨fun _=>by omega,fun e=>by cases e⟩
    ·refine aa 6 fun _=>dj (σ:=Bool) qh3 qbq (fun z=>(z=true→3≤a.kind∧a.kind≤6)∧(z=false→ ¬ (3≤a.kind∧a.kind≤6))) ?_ ?_
     ·rintro z ⟨I4,wu⟩
      exact gV _ z [0,1,2] kr ⟨I4,wu⟩
     ·intro _ im
      refine aG 9 (a.kind=5) (fun agN=>?_) (fun agN=>?_)
      ·refine aa 2 fun _=>im _ true [0,1,2] kr ⟨fun _=>by omega,fun e=>by cases e⟩
      ·refine aa 5 fun _=>im _ (decide (a.kind=6)) [0,1,2] kr ⟨fun e=>by simp only [decide_eq_true_eq] at e;omega,fun e=>by simp only [decide_eq_false_iff_not] at e;omega⟩
end
def uE (a:dz) (s:Nat→Nat) (j:Nat):Nat:=
 if a.kind=7 then (if (j:Int)=a.rep then 0 else s j) else if a.kind=8 then (if (j:Int)=a.rep then (if s j=0 then 1 else s j) else s j) else if s j=1 then 2 else s j
def si (l:List dz) (s:Nat→Nat):Nat→Nat:=l.foldl (fun s a=>uE a s) s
def pB (l:List dz) (a:dz) (s:Nat→Nat):si (l++ [a]) s=uE a (si l s):=by simp [si]
def Sw (s:Nat→Nat) (W:kX):Prop:= ∀j r,W.aF[j]? =some r→(s j=0↔r.up=false)∧(s j=1→Sj j r)
def Sw.step {s:Nat→Nat} {a:dz} {W W2:kX} (h:Sw s W) (k:Step a W W2) (hl:W2.aF.length=W.aF.length):Sw (uE a s) W2:=by
 intro j r2 h2
 obtain ⟨r,hr⟩: ∃r,W.aF[j]? =some r:=⟨_,dw (by have:=(aN.1 h2).1;omega)⟩
 have h0:=h j r hr
 unfold uE
 by_cases h7:a.kind=7
 ·rw [if_pos h7]
  by_cases e:(j:Int)=a.rep
  ·rw [if_pos e]
   obtain ⟨q,hq,hu⟩:=k.off h7 j r e hr
   rw [hq] at h2
   injection h2 with h2
   subst h2
   exact ⟨⟨fun _=>hu,fun _=>rfl⟩,fun h=>absurd h (by decide)⟩
  ·rw [if_neg e]
   rw [k.other (.inl h7) j e,hr] at h2
   injection h2 with h2
   subst h2
   exact h0
 ·rw [if_neg h7]
  by_cases h8:a.kind=8
  ·rw [if_pos h8]
   by_cases e:(j:Int)=a.rep
   ·rw [if_pos e]
    obtain ⟨q,hq,hu,LB,Nk⟩:=k.on h8 j r e hr
    rw [hq] at h2
    injection h2 with h2
    subst h2
    by_cases hs:s j=0
    ·rw [if_pos hs]
     exact ⟨⟨fun h=>absurd h (by decide),fun h=>absurd (hu.symm.trans h) (by decide)⟩,fun _=>Nk (h0.1.1 hs)⟩
    ·rw [if_neg hs]
     have FA:r.up=true:=by
      cases hx:r.up with
      |true=>rfl
      |false=>exact absurd (h0.1.2 hx) hs
     rw [LB FA]
     exact h0
   ·rw [if_neg e]
    rw [k.other (.inr h8) j e,hr] at h2
    injection h2 with h2
    subst h2
    exact h0
  ·rw [if_neg h8]
   have hu:=congrArg (fun l=>l[j]?) (k.rest h7 h8)
   simp only [fk,h2,hr,Option.map_some,a9] at hu
   split
   ·rename_i hs
    exact ⟨⟨fun h=>absurd h (by decide),fun h=>by rw [hu] at h;have:=h0.1.2 h;omega⟩,fun h=>absurd h (by decide)⟩
   ·rename_i hs
    exact ⟨by rw [hu];exact h0.1,fun h=>absurd h hs⟩
structure wb (n:Nat) (W:kX):Prop where
 row:W.row= []
 fu:W.fu= []
 rep: ∀(j:Nat) (r:m'),W.aF[j]? =some r→r.d=aj j (bR n) []∧r.up=true
def HX {n:Nat} (hn:1≤n∧n≤4):dW (bR n):=⟨by simp;omega,by simp;omega,fun x hx=>qrh⟩
def wb.wi {n:Nat} {W:kX} (h:wb n W) (hn:1≤n∧n≤4) (hl:W.aF.length=n):WI n 0 W:=by
 refine ⟨hn,by omega,hl,fun j r hr=>?_,fun r hr o ho=>?_,(fun x hx=>by rw [h.row] at hx;cases hx),by rw [h.row];simp⟩
 ·have h1:=(h.rep j r hr).1
  have hi:=(aN.1 hr).1
  refine ⟨by rw [h1];rfl,by rw [h1];simp [aj],by rw [h1];exact HX hn,by rw [h1];rfl,(fun o ho=>by rw [h1] at ho;cases ho),(fun o ho=>by rw [h1] at ho;cases ho),by rw [h1];simp [aj],?_,by rw [h1];exact ⟨Int.le_refl _,by show (0:Int)≤_;omega⟩,by rw [h1];exact ⟨Int.le_refl _,by show (0:Int)≤_;omega,Int.le_refl _,by show (0:Int)<_;omega⟩⟩
  rw [h1]
  show dA (bR n) j≤_
  unfold dA
  rw [bA,List.getElem?_replicate,if_pos (by omega)]
  exact qsk
 ·obtain ⟨j,hj,e⟩:=List.getElem_of_mem hr
  have h1:=(h.rep j r (by rw [dw hj,e])).1
  rw [h1] at ho
  rcases ho with ho|ho<;>cases ho
def wb.ZN {n:Nat} {W:kX} (h:wb n W):Sw (fun _=>1) W:=fun j r hr=>by
 obtain ⟨h1,h2⟩:=h.rep j r hr
 refine ⟨⟨fun h=>absurd (show (1:Nat)=0 from h) (by decide),fun h=>absurd (h2.symm.trans h) (by decide)⟩,fun _=>?_⟩
 show r.d=aj j r.d.hv r.d.ops
 rw [h1];rfl
def Wks (n:Nat) (l:List dz):Prop:=n=1∧ ∃a,l= [a]∧a.kind=1∧a.rep=0∧a.fX.kind=1∧a.fX.par=⟨0,0⟩∧a.fX.oA=⟨0,0⟩
structure Xo (n:Nat) (l:List dz) (k:Nat) (W:kX):Prop where
 kl:k≤l.length
 wi:WI n k W
 ZN:Sw (si (l.take k) fun _=>1) W
 al:W.fu.length≤k
 wk0:Wks n l→k=0→wb n W
 wk1:Wks n l→k=1→ ∃x,W.fu= [x]∧x.e=0
def wb.ply {n:Nat} {W:kX} (h:wb n W) (hn:1≤n∧n≤4) (hl:W.aF.length=n) (l:List dz):Xo n l 0 W:=⟨bh _,h.wi hn hl,by rw [List.take_zero];exact h.ZN,by rw [h.fu];exact bO _,fun _ _=>h,fun _ h=>absurd h (by decide)⟩
def Xo.step {n k:Nat} {l:List dz} {W W2:kX} {a:dz} (h:Xo n l k W) (ha:l[k]? =some a) (hw:WI n (k+1) W2) (hs:Step a W W2):Xo n l (k+1) W2:=by
 have hk:=(aN.1 ha).1
 refine ⟨hk,hw,?_,by have:=hs.al;have:=h.al;omega,fun _ h=>absurd h (by omega),fun hwk e=>?_⟩
 ·rw [List.take_add_one,ha,Option.toList_some,pB]
  exact h.ZN.step hs (by rw [hw.len,h.wi.len])
 ·have e0:k=0:=by omega
  subst e0
  have hb:=h.wk0 hwk rfl
  obtain ⟨hn,a2,hl,h1,h2,h3,h4,h5⟩:=hwk
  subst hn
  rw [hl] at ha
  simp only [gQ,a9] at ha
  subst ha
  obtain ⟨r,hr⟩: ∃r,W.aF[0]? =some r:=⟨_,dw (by rw [h.wi.len];decide)⟩
  have h6:=hb.rep 0 r hr
  obtain ⟨x,hx,IL⟩:=hs.fu h1 r (by omega) (by rw [h2];exact hr) h6.2
  rw [hb.fu] at hx
  exact ⟨x,hx,IL ⟨h3,h4,h5,by rw [h6.1];rfl,by rw [h6.1];rfl⟩⟩
set_option maxHeartbeats 400000
def mw:Kd dz:=⟨34,16,fun a=> [iv a.kind,iv a.rep,iv a.fX.kind,iv a.fX.node.t,iv a.fX.node.r,iv a.fX.par.t,iv a.fX.par.r,iv a.fX.oA.t,iv a.fX.oA.r,iv a.fX.prop,iv a.fX.val,iv a.fX.width,iv a.wh,iv a.num,iv a.ug,sl a.A a.fo.length a.c],fun _=>rfl,fun _=>rfl,by decide⟩
def Q8 {α:Type} {l:List α} {x:α} {i:Nat} (h:l.length=i):(l++ [x])[i]? =some x:=by rw [gD (by omega),h,Nat.sub_self];rfl
def lI:Kd Bool:=⟨4,1,fun x=> [.bool x],fun _=>rfl,fun _=>rfl,by decide⟩
def lZ (A:OA) (l:List dz) (w:World):Prop:=mw.Rd A l w∧ ∀x∈l,az.Rd x.A x.fo w
def lZ.aE {A:OA} {l:List dz} {w w':World} (h:lZ A l w) (hc:Ch No w w'):lZ A l w':=⟨h.1.aE hc,fun x hx=>(h.2 x hx).aE hc⟩
abbrev zy:c_:=⟨⟨0,[],[],[],0,0,0⟩,⟨none,0,none,0,none,0,none,0,none,0,none,0⟩⟩
def Told (W:kX) (i:Nat) (ys:List c_):Prop:=ys.length=i∧ ∀(j:Nat) (y:c_),ys[j]? =some y→ ∃r:m',W.aF[j]? =some r∧y.d=r.d
def Told.snoc {W:kX} {i:Nat} {ys:List c_} {r:m'} {y:c_} (h:Told W i ys) (hr:W.aF[i]? =some r) (hy:y.d=r.d):Told W (i+1) (ys++ [y]):=by
 refine ⟨by rw [bm,h.1];rfl,fun j z hz=>?_⟩
 by_cases e:j<ys.length
 ·rw [lW e] at hz
  exact h.2 j z hz
 ·rw [gD (by omega)] at hz
  obtain ⟨hj,hz⟩:=aN.1 hz
  have e2:j=i:=by have:=h.1;simp at hj;omega
  subst e2
  refine ⟨r,hr,?_⟩
  rw [← hz]
  simp [h.1,hy]
def Ih {n i:Nat} {W:kX} {r:m'} (h:wb n W) (hl:W.aF.length=i) (hd:r.d=aj i (bR n) []) (hu:r.up=true):wb n {W with aF:=W.aF++ [r]}:=by
 refine ⟨h.row,h.fu,fun j q hq=>?_⟩
 have hq:(W.aF++ [r])[j]? =some q:=hq
 by_cases e:j<W.aF.length
 ·rw [lW e] at hq
  exact h.rep j q hq
 ·rw [gD (by omega)] at hq
  obtain ⟨hj,hq⟩:=aN.1 hq
  have e2:j=i:=by simp at hj;omega
  subst e2
  rw [← hq]
  simp [hl,hd,hu]
def Wj {s:Nat→Nat} {W:kX} {j:Nat} {r:m'} (h:Sw s W) (hr:W.aF[j]? =some r) (hs:s j≠0):r.up=true:=by
 cases hx:r.up with
 |true=>rfl
 |false=>exact absurd ((h j r hr).1.2 hx) hs
def Sf (n:Nat) (Al:OA) (cl:Nat) (l:List dz) (hn:1≤n∧n≤4) (hl:l.length≤90) (hpk: ∀a∈l,a.fo.length≤a.c) (FA: ∀j,j<n→si l (fun _=>1) j≠0):Ct Cp 7 #[iv n,sl Al l.length cl] (fun w=>lZ Al l w) [] (fun v Cs=>(∃(W2:kX),∃ys Aa ca As cs Au cu,∃(sn:Int),v=.tuple #[.agg #[sl Aa W2.fu.length ca,sl As ys.length cs,sl Au ((List.replicate n true).length) cu,iv sn],iv 0]∧Xo n l l.length W2∧Told W2 n ys∧Cs= [pc.row Aa ca W2.fu,CS.row As cs ys,lI.row Au cu (List.replicate n true),aM.all (ys.map SA)])):=by
 refine cc Tryz.func7 fun w0 hp=>aa 12 fun a8=>aG 18 ((n:Int)<1) (fun h2=>?_) (fun h2=>?_)
 ·exact kp
 ·refine aa 5 fun _=>aq ((n:Int)>16) (fun h3=>?_) (fun h3=>?_)
  ·exact kp
  ·refine aa 7 fun _=>aq ((l.length:Int)>400) (fun h4=>?_) (fun h4=>?_)
   ·exact kp
   ·refine aa 15 fun jn=>bG mE<|bG mF<|bG pc<|dQ<|aJ (nc (jn 5) (⟨[],[],0,[]⟩:kX)) [1,2,3,4,5] [bJ (jn 5) 65 [sl none 0 0,sl none 0 0,iv 0,sl none 0 0],mE.row none 0 [],mF.row none 0 [],pc.row none 0 [],aM.all (([]:List m').map jE)] (⟨none,0,none,0,none,0,rfl⟩)<|aR (σ:=Nat×kX) (fun (i,W)=> [(0,iv n),(1,sl Al l.length cl),(4,pv (a8 2)),(5,iv 0),(6,pv (jn 5)),(30,iv n),(31,iv i)]) (fun (i,W)=> [.b (a8 2) 39 [sl none 0 0,sl none 0 0,sl none 0 0,iv 0],.k (pF (jn 5) W)]) (fun (i,W)=>i≤n∧W.aF.length=i∧wb n W) (fun (i,W)=>n-i) (0,(⟨[],[],0,[]⟩:kX)) [0,6] ⟨bh _,rfl,⟨rfl,rfl,fun j r h=>by cases j<;>cases h⟩⟩ ?_
    rintro _ ⟨i,W⟩ ⟨ri,pI,NI⟩ aB
    refine aa 5 fun _=>aq ((i:Int)<(n:Int)) (fun h6=>?_) (fun h6=>?_)
    ·refine bn (φ:=nc (jn 5) W) 1 ?_
     rintro _ ⟨Ar,cr,Aw,cw,Aa,ca,rfl⟩
     refine dB 2 (jn 5) 65 EY ?_
     have hlen:(W.aF.map (·.rb)).length=W.aF.length:=cM _
     refine aa 10 fun _=>ah MP [] cJ ?_
     rintro _ _ ⟨g7,rfl,rfl⟩
     refine aD 7 (j6 g7 ([]:List UInt8) ([]:List UInt8)) (j6 g7 (bL (bU [])) (bL (bU []))) kr rfl<|ae 17 [2] fun sf=>bQ mE 3 Ar cr (W.aF.map (·.rb)) (so (sf 16)) 1 1 [(sf 15)] (fun w h=>h.eT 10 (sf 16) 69 (List.flatMap mE.f [(sf 15)]) kr) (by omega) fun A9 rA=>?_
     have hla:(W.aF.map (·.rb)++ [(sf 15)]).length=i+1:=by simp only [bm,dM,fA];omega
     refine ae 4 [2] fun _=>aO [(5,_),(6,_),(10,_)] [2,9] ⟨br (fun vs=>A9) (fun vs=>(W.aF.map (·.rb)++ [(sf 15)]).length) (fun vs=>(i:Int)) 1 (fun vs w h=>Kd.cd (K:=mE) (xs:=W.aF.map (·.rb)++ [(sf 15)]) (h.bg 3 A9 rA (W.aF.map (·.rb)++ [(sf 15)]) kr) (by omega)),cZ 69 (fun vs=>ad A9 (i*1) 0) (fun vs=>pv (sf 15)) (fun vs w h=>bW (K:=mE) (h.bg 3 A9 rA (W.aF.map (·.rb)++ [(sf 15)]) kr) (Q8 (by omega))),aY (fun vs=>D8 g7 (i:Int) n [] (bR n) (by omega) rfl (fun o ho=>by cases ho) (bh _)) [8] (fun vs=>.tuple #[.pointer (some ⟨(a5 (tp (vs 10) 0)),0,none⟩),iv 0]) [fun vs=>.k (kn (a5 (tp (vs 10) 0)) g7 (aj (i:Int) (bR n) []))] nE Zg,trivial⟩ fun mj=>aJ (xn (⟨sf 15,g7,a5 (tp (mj 10) 0),aj i (bR n) [],true,zy⟩:m')) [12,11] [bJ (sf 15) 72 [pv g7,.pointer (some ⟨(a5 (tp (mj 10) 0)),0,none⟩),iv 0,iv 0,sl none 0 0,sl none 0 0,sl none 0 0,sl none 0 0,sl none 0 0,sl none 0 0,iv 0,iv 0,iv 0],kn (a5 (tp (mj 10) 0)) g7 (aj (i:Int) (bR n) [])] (.inl ⟨rfl,rfl⟩)<|eD jE 13 6 W.aF (⟨sf 15,g7,a5 (tp (mj 10) 0),aj i (bR n) [],true,zy⟩:m') kr<|aS mE 3 A9 rA (W.aF.map (·.rb)++ [(sf 15)]) ((W.aF++ [(⟨sf 15,g7,a5 (tp (mj 10) 0),aj i (bR n) [],true,zy⟩:m')]).map (·.rb)) kr Y7<|bP 2 (jn 5) 65 [sl A9 ((W.aF.map (·.rb)++ [(sf 15)]).length) rA,sl Aw W.row.length cw,iv W.fO,sl Aa W.fu.length ca] [sl A9 (((W.aF++ [(⟨sf 15,g7,a5 (tp (mj 10) 0),aj i (bR n) [],true,zy⟩:m')]).map (·.rb)).length) rA,sl Aw W.row.length cw,iv W.fO,sl Aa W.fu.length ca] kr Y7<|aJ (nc (jn 5) ({W with aF:=W.aF++ [(⟨sf 15,g7,a5 (tp (mj 10) 0),aj i (bR n) [],true,zy⟩:m')]})) [2,15,4,5,14] [bJ (jn 5) 65 [sl A9 (((W.aF++ [(⟨sf 15,g7,a5 (tp (mj 10) 0),aj i (bR n) [],true,zy⟩:m')]).map (·.rb)).length) rA,sl Aw W.row.length cw,iv W.fO,sl Aa W.fu.length ca],mE.row A9 rA ((W.aF++ [(⟨sf 15,g7,a5 (tp (mj 10) 0),aj i (bR n) [],true,zy⟩:m')]).map (·.rb)),mF.row Aw cw W.row,pc.row Aa ca W.fu,aM.all ((W.aF++ [(⟨sf 15,g7,a5 (tp (mj 10) 0),aj i (bR n) [],true,zy⟩:m')]).map jE)] (⟨A9,rA,Aw,cw,Aa,ca,rfl⟩)<|aa 3 fun _=>ao 66 ((i:Int)+1)<|aa 2 fun _=>aB _ (i+1,{W with aF:=W.aF++ [(⟨sf 15,g7,a5 (tp (mj 10) 0),aj i (bR n) [],true,zy⟩:m')]}) [0,16] kr ⟨by omega,by show (W.aF++ [_]).length=_;rw [bm,pI];rfl,Ih NI pI rfl rfl⟩ du
    ·refine aa 9 fun _=>?_
     have je:i=n:=by omega
     have Nx:=NI.ply hn (by omega) l
     refine dQ<|aD 2 (aM.all (([]:List gL).map gL.own)) (aM.all (W.row.map gL.own)) kr (by rw [NI.row])<|aR (σ:=Nat×kX) (fun (k,W1)=> [(4,pv (a8 2)),(5,iv 0),(6,pv (jn 5)),(67,sl Al l.length cl),(68,iv (l.length:Int)),(69,iv k)]) (fun (k,W1)=> [.b (a8 2) 39 [sl none 0 0,sl none 0 0,sl none 0 0,iv 0],.k (pF (jn 5) W1),.k (aM.all (W1.row.map gL.own))]) (fun (k,W1)=>Xo n l k W1) (fun (k,W1)=>l.length-k) (0,W) [0,1,3] Nx ?_
     rintro _ ⟨k,W1⟩ Ie dG
     refine aa 5 fun _=>aq ((k:Int)<(l.length:Int)) (fun sU=>?_) (fun sU=>?_)
     ·refine aa 5 fun _=>aV Al l.length (k:Int) 16 qhq ?_
      obtain ⟨l_,CA⟩:=aw (xs:=l) (k:=k) (by omega)
      refine bd 34 (ad Al (k*16) 0) (.agg #[iv l_.kind,iv l_.rep,iv l_.fX.kind,iv l_.fX.node.t,iv l_.fX.node.r,iv l_.fX.par.t,iv l_.fX.par.r,iv l_.fX.oA.t,iv l_.fX.oA.r,iv l_.fX.prop,iv l_.fX.val,iv l_.fX.width,iv l_.wh,iv l_.num,iv l_.ug,sl l_.A l_.fo.length l_.c]) (fun w h=>bN (K:=mw) (hp.1.aE h.ch) CA)<|ae 6 [3,3] fun kQ=>bD (ZY (jn 5) l_ W1 n k Ie.wi (by omega) (hpk _ (aI CA)) (by have:=Ie.al;omega)) [1,2] (fun w F h=>(hp.2 l_ (aI CA)).u0.ew h) ?_
      rintro _ _ (⟨W21,rfl,f22,f23,rfl⟩)
      ·refine aa 4 fun _=>ao 76 ((k:Int)+1)<|aa 2 fun _=>dG _ (k+1,W21) [0,4,5] kr (Ie.step CA f22 f23) (by have:=(Ie.step CA f22 f23).kl;dsimp only;omega)
     ·have AN:k=l.length:=by have:=Ie.kl;omega
      have ji:Sw (si l fun _=>1) W1:=by have h:=Ie.ZN;rwa [cA (by omega)] at h
      have hwl:=Ie.wi.len
      refine bn (φ:=nc (jn 5) W1) 1 ?_
      rintro _ ⟨SW,XA,Aw2,cw2,Aa2,ca2,rfl⟩
      refine dB 3 (jn 5) 65 [sl SW ((W1.aF.map (·.rb)).length) XA,sl Aw2 W1.row.length cw2,iv W1.fO,sl Aa2 W1.fu.length ca2] ?_
      have hln:(W1.aF.map (·.rb)).length=W1.aF.length:=cM _
      refine ae 12 [3] fun _=>bG CS<|bG lI<|aS lI 9 none 0 [] (List.replicate 0 true) kr rfl<|aD 7 (aM.all (W1.aF.map jE)) (aM.all ((W1.aF.drop 0).map jE)) kr qom<|dQ<|aR (σ:=Nat×OA×Nat×OA×Nat×List c_) (fun (q,B,d,E,f,ys)=> [(4,pv (a8 2)),(5,iv 0),(6,pv (jn 5)),(80,sl SW ((W1.aF.map (·.rb)).length) XA),(81,iv ((W1.aF.map (·.rb)).length:Int)),(82,iv q)]) (fun (q,B,d,E,f,ys)=> [.b (jn 5) 65 [sl SW ((W1.aF.map (·.rb)).length) XA,sl Aw2 W1.row.length cw2,iv W1.fO,sl Aa2 W1.fu.length ca2],.k (mE.row SW XA (W1.aF.map (·.rb))),.k (pc.row Aa2 ca2 W1.fu),.k (aM.all ((W1.aF.drop q).map jE)),.k (aM.all (ys.map SA)),.b (a8 2) 39 [sl none 0 0,sl B ys.length d,sl E ((List.replicate q true).length) f,iv 0],.k (CS.row B d ys),.k (lI.row E f (List.replicate q true))]) (fun (q,B,d,E,f,ys)=>q≤W1.aF.length∧Told W1 q ys) (fun (q,B,d,E,f,ys)=>W1.aF.length-q) (0,none,0,none,0,[]) [3,4,6,11,12,0,8,10] ⟨bh _,rfl,fun j y h=>by cases j<;>cases h⟩ ?_
      rintro _ ⟨q,B,d,E,f,ys⟩ ⟨hq,htd⟩ jr
      refine aa 5 fun _=>aq ((q:Int)<((W1.aF.map (·.rb)).length:Int)) (fun D5=>?_) (fun D5=>?_)
      ·have Vo:q<W1.aF.length:=by omega
       refine Exists.elim (aw (xs:=W1.aF) (k:=q) Vo) fun r hr=>?_
       have W9:(W1.aF.map (·.rb))[q]? =some r.rb:=by rw [fk,hr];rfl
       have hu:=Wj ji hr (FA q (by omega))
       have NT:=(Ie.wi.rep _ _ hr).pM hn.2 (rn Ie.wi hr)
       refine gu 3 0 jE (W1.aF.drop q) r (by rw [List.getElem?_drop];exact hr) kr ?_
       refine aD 9 (aM.all (((W1.aF.drop q).take 0++(W1.aF.drop q).drop (0+1)).map jE)) (aM.all ((W1.aF.drop (q+1)).map jE)) kr qii<|aD 8 (jE r) (g9 fun Cs=>Cs= [bJ r.rb 72 (pv r.dk::pv r.kb::c_.cells r.s),kn r.kb r.dk r.d]) kr (by rw [Lr hu])<|bn (φ:=fun Cs=>Cs= [bJ r.rb 72 (pv r.dk::pv r.kb::c_.cells r.s),kn r.kb r.dk r.d]) 11 ?_
       rintro _ rfl
       refine dB 12 r.rb 72 qd0<|aa 5 fun _=>aV SW ((W1.aF.map (·.rb)).length) (q:Int) 1 (fun w h=>Kd.cd (K:=mE) (xs:=W1.aF.map (·.rb)) (h.bg 1 SW XA (W1.aF.map (·.rb)) kr) (by omega))<|bd 69 (ad SW (q*1) 0) (.pointer (some ⟨r.rb,0,none⟩)) (fun w h=>bW (K:=mE) (h.bg 1 SW XA (W1.aF.map (·.rb)) kr) W9)<|ae 23 [12,12] fun _=>ah (E' r.kb r.dk r.d NT) [13] cJ ?_
       rintro _ _ (⟨XB,rfl,rfl⟩)
       ·refine ae 4 [12] fun _=>aO [(7,_),(12,_)] [5,12,5,5,20] ⟨ib (hb:=fun _=>qlz) CS 6 (fun vs=>B) (fun vs=>d) (fun vs=>ys) (fun vs=>some ⟨(a5 (vs 6)),0,none⟩) (fun vs=>1) (fun vs=>1) (fun vs=> [(⟨r.d,XB⟩:c_)]) (fun vs w h=>h.eT 15 (a5 (vs 6)) 54 (List.flatMap CS.f [(⟨r.d,XB⟩:c_)]) kr),ib (hb:=fun _=>qlz) lI 7 (fun vs=>E) (fun vs=>f) (fun vs=>List.replicate q true) (fun vs=>some ⟨(a5 (vs 11)),0,none⟩) (fun vs=>1) (fun vs=>1) (fun vs=> [true]) (fun vs w h=>h.eT 16 (a5 (vs 11)) 4 (List.flatMap lI.f [true]) kr),trivial⟩ fun FT=>aa 3 fun _=>ao 115 ((q:Int)+1)<|aa 2 fun _=>eD SA 15 4 ys (⟨r.d,XB⟩:c_) kr<|aS lI 19 (ak (FT 12)) (an (FT 12)) (List.replicate q true++ [true]) (List.replicate (q+1) true) kr List.replicate_succ'.symm<|bP 21 (a8 2) 39 [sl none 0 0,sl (ak (FT 7)) ((ys++ [(⟨r.d,XB⟩:c_)]).length) (an (FT 7)),sl (ak (FT 12)) ((List.replicate q true++ [true]).length) (an (FT 12)),iv 0] [sl none 0 0,sl (ak (FT 7)) ((ys++ [(⟨r.d,XB⟩:c_)]).length) (an (FT 7)),sl (ak (FT 12)) ((List.replicate (q+1) true).length) (an (FT 12)),iv 0] kr (by rw [List.replicate_succ'])<|jr _ (q+1,ak (FT 7),an (FT 7),ak (FT 12),an (FT 12),ys++ [(⟨r.d,XB⟩:c_)]) [0,1,2,10,22,21,17,23] kr ⟨by omega,htd.snoc hr rfl⟩ du
      ·refine aa 2 fun _=>aO [] [0,0,5,8] trivial fun v28=>ae 6 [9,9] fun _=>?_
       have hqn:q=n:=by omega
       refine aS lI 7 E f (List.replicate q true) (List.replicate n true) kr (by rw [hqn])<|bk [9] [2,6,10,4] (⟨W1,ys,Aa2,ca2,B,d,E,f,W1.fO,kt (.tuple #[.agg #[sl Aa2 W1.fu.length ca2,sl B ys.length d,sl E ((List.replicate q true).length) f,iv W1.fO],iv 0]) (by rw [hqn]),by rw [← AN];exact Ie,by rw [← hqn];exact htd,kr⟩)
