/- For the law of worlds: The engine. -/
import Derived.Test.YtfookmefmjhonaaGreatZ04
set_option linter.all false
namespace Go.bE
open Go.RowKit
section
inductive HB where
 |b (g:Nat) (t:TypeId) (cs:List Value)
 |k (A:aM)
def HB.gf:HB→aM
 |.b g t cs=>bJ g t cs
 |.k A=>A
instance:Inhabited HB:=⟨.k aM.emp⟩
inductive Kt where
 |c (x:Code)
 |o (ops:Array Oper) (is:List Nat)
 |e (id:Nat)
 |i (X:Act→World→Prop)
 |l (J:Nat→Act→World→Prop)
structure S where
 L:Env
 H:List HB
 ks:List Kt
instance:Inhabited S:=⟨⟨[],[],[]⟩⟩
def DK (P:Program) (Q:Exit→Act→World→Prop):List Kt→Exit→Act→World→Prop
 | []=>Q
 |.c x::ks=>Exit.then (x.wp P (DK P Q ks)) (DK P Q ks)
 |.o ops is::ks=>Exit.then (wpOps P ops (DK P Q ks) is) (DK P Q ks)
 |.e id::ks=>Exit.inBlock id (DK P Q ks)
 |.i X::ks=>Exit.then X (DK P Q ks)
 |.l J::ks=>Exit.labels J (DK P Q ks)
def SH (U:Nat→Prop) (w0 w:World) (H:List HB):Prop:=SS U w0 w (H.map HB.gf)
structure G (P:Program) (n:Nat) (U:Nat→Prop) (w0:World) (Q:Exit→Act→World→Prop) (s:S):Prop where
 go: ∀w,SH U w0 w s.H→ ∀a,Fr n s.L a→DK P Q s.ks .normal a w
variable {P:Program} {n:Nat} {U:Nat→Prop} {w0 w:World} {Q:Exit→Act→World→Prop} {s:S}
def jP (P:Program) (H:List HB) (t:TypeId):Value→List Nat→Option (Value×List Nat×Nat×Nat)
 |.pointer (some ⟨b,o,none⟩),c::hs=>
  match H[c]?with
  |some (.b g _ cs)=>
   match bc P (isAgg t) with
   |some false=>match cs[o]?with
    |some v=>some (v,hs,b,g)
    |none=>none
   |some true=>match bc P (sizeOf t) with
    |some sz=>bif Nat.beq ((cs.drop o).take sz).length sz then some (.agg ((cs.drop o).take sz).toArray,hs,b,g) else none
    |none=>none
   |none=>none
  |_=>none
 |_,_=>none
def L9 (P:Program) (L:Env) (H:List HB) (hs:List Nat):Op→Option (Value×List HB×List Nat×Nat×Nat)
 |.load t x=>(jP P H t (L.ev x) hs).map fun r=>(r.1,H,r.2)
 |.store t x y=>
  match L.ev x,hs with
  |.pointer (some ⟨b,o,none⟩),c::hs=>
   match H[c]?with
   |some (.b g t' cs)=>
    match bc P (sizeOf t) with
    |some sz=>bif Nat.beq (L.ev y).cells.toList.length sz&&Nat.ble (o+sz) cs.length&&(L.ev y).cells.toList.all (·.oneCell') then
     some (undef,H.set c (.b g t' (ba cs o (L.ev y).cells.toList)),hs,b,g) else none
    |none=>none
   |_=>none
  |_,_=>none
 |_=>none
def CE (P:Program) (L:Env):Op→Option Value
 |.binOp .eql t x y _=>match L.ev x,L.ev y with
  |.agg xs,.agg ys=>bif P.eqGuardType P.depth t then none else (IS P 10000 t (.agg xs) (.agg ys)).map .bool
  |_,_=>none
 |.binOp .neq t x y _=>match L.ev x,L.ev y with
  |.agg xs,.agg ys=>bif P.eqGuardType P.depth t then none else (IS P 10000 t (.agg xs) (.agg ys)).map fun r=>.bool (!r)
  |_,_=>none
 |_=>none
def L_ (P:Program) (g:Nat) (L:Env) (H:List HB) (hs:List Nat) (x:Op×TypeId):Option (Value×List HB×List Nat×Nat×Nat):=
 match L9 P L H hs x.1 with
 |some r=>some r
 |none=>match CE P L x.1 with
  |some v=>some (v,H,hs,0,0)
  |none=>match bc P (ex L x) with
   |some (.value v)=>some (v,H,hs,0,0)
   |some .skip=>some (undef,H,hs,0,0)
   |some _=>none
   |none=>match nU P g (ex L x) with
    |some (.cells cs t (0,0),.value v)=>some (v,H++ [.b g t cs.toList],hs,0,0)
    |_=>none
def D0 (P:Program) (n:Nat) (ops:Array Oper) (g i:Nat) (L:Env) (H:List HB) (hs:List Nat):Option (Value×List HB×List Nat×Nat×Nat):=
 bif iU n ops i then
  match ops[i]?with
  |none=>none
  |some o=>match gT ops L o with
   |some false=>some (undef,H,hs,0,0)
   |some true=>bif L.jk o then L_ P g L H hs (o.op,o.type) else none
   |none=>none
 else none
def SH.at {H:List HB} {c g:Nat} {t:TypeId} {cs:List Value} (h:H[c]? =some (.b g t cs)):(H.map HB.gf)[c]? =some (bJ g t cs):=by
 rw [fk,h];rfl
def rv {H:List HB} {hs hN:List Nat} {b g:Nat} {t:TypeId} {u v:Value} (hr:jP P H t u hs=some (v,hN,b,g)) (he:b=g) (hS:SH U w0 w H):
 ∃a,u=.pointer (some a)∧(loadVar t a).run P w=.ok v w:=by
 unfold jP at hr
 split at hr
 ·rename_i _ _ b' o c lu
  split at hr
  ·rename_i g' T cs hc
   split at hr
   ·rename_i U9
    split at hr
    ·rename_i u hu
     simp only [a9,bI] at hr
     obtain ⟨rfl,rfl,rfl,rfl⟩:=hr
     subst he
     exact ⟨_,rfl,qQ (hS.N4 (SH.at hc)) U9 hu⟩
    ·cases hr
   ·rename_i U9
    split at hr
    ·rename_i sz pq
     cases hb:Nat.beq ((cs.drop o).take sz).length sz with
     |false=>rw [hb] at hr;cases hr
     |true=>
      rw [hb] at hr
      simp only [cond_true,a9,bI] at hr
      obtain ⟨rfl,rfl,rfl,rfl⟩:=hr
      subst he
      have e:=dh hb
      exact ⟨_,rfl,qS (hS.N4 (SH.at hc)) U9 (by rw [pq,e]) (by rw [e])⟩
    ·cases hr
   ·cases hr
  ·cases hr
 ·cases hr
def H0 {ops:Array Oper} {L:Env} {H H':List HB} {hs hN:List Nat} {i b g:Nat} {op:Op} {ty:TypeId} {v:Value} (hx:ef ops L i=some (op,ty)) (hr:L9 P L H hs op=some (v,H',hN,b,g)) (he:b=g) (hS:SH U w0 w H):
 One P n ops Q i L w fun u w'=>u=v∧SH U w0 w' H':=by
 unfold L9 at hr
 split at hr
 ·simp only [fV] at hr
  obtain ⟨⟨v1,h1,b1,g1⟩,h2,h3⟩:=hr
  simp only [bI] at h3
  obtain ⟨rfl,rfl,rfl,rfl,rfl⟩:=h3
  obtain ⟨a,h4,h5⟩:=rv h2 he hS
  exact pO hx h4 h5 ⟨rfl,hS⟩
 ·rename_i t x y
  split at hr
  ·rename_i _ _ b' o c lu hev
   split at hr
   ·rename_i g' T cs hc
    split at hr
    ·rename_i sz pq
     cases hb:(Nat.beq (L.ev y).cells.toList.length sz&&Nat.ble (o+sz) cs.length&&(L.ev y).cells.toList.all (·.oneCell')) with
     |false=>rw [hb] at hr;cases hr
     |true=>
      rw [hb] at hr
      simp only [cond_true,a9,bI] at hr
      obtain ⟨rfl,rfl,rfl,rfl,rfl⟩:=hr
      subst he
      simp only [da] at hb
      obtain ⟨⟨h1,h2⟩,h3⟩:=hb
      have e:=dh h1
      have h2':=dF h2
      rw [Array.length_toList] at e
      refine tR hx hev rfl hS (SH.at hc) (by rw [pq,e]) (by rw [e];exact h2') h3 fun w' hw _=>⟨rfl,?_⟩
      show SS U w0 w' ((H.set c _).map HB.gf)
      rw [List.map_set]
      exact hw
    ·cases hr
   ·cases hr
  ·cases hr
 ·cases hr
def tx {ops:Array Oper} {L:Env} {H:List HB} {i:Nat} {op:Op} {ty:TypeId} {v:Value} (hx:ef ops L i=some (op,ty)) (hr:CE P L op=some v) (hS:SH U w0 w H):
 One P n ops Q i L w fun u w'=>u=v∧SH U w0 w' H:=by
 unfold CE at hr
 split at hr
 ·split at hr
  ·rename_i t x y t2 _ _ xs ys h1 h2
   cases hg:P.eqGuardType P.depth t with
   |true=>rw [hg] at hr;cases hr
   |false=>
    rw [hg] at hr
    simp only [cond_false,fV] at hr
    obtain ⟨r,h3,rfl⟩:=hr
    exact E8 hx h1 h2 hg h3 ⟨rfl,hS⟩
  ·cases hr
 ·split at hr
  ·rename_i t x y t2 _ _ xs ys h1 h2
   cases hg:P.eqGuardType P.depth t with
   |true=>rw [hg] at hr;cases hr
   |false=>
    rw [hg] at hr
    simp only [cond_false,fV] at hr
    obtain ⟨r,h3,rfl⟩:=hr
    exact E9 hx h1 h2 hg h3 ⟨rfl,hS⟩
  ·cases hr
 ·cases hr
def SH.push {H:List HB} {g:Nat} {t:TypeId} {cs:List Value} (h:SS U w0 w (bJ g t cs::H.map HB.gf)):SH U w0 w (H++ [.b g t cs]):=by
 unfold SH
 rw [cT]
 exact h.perm (List.perm_append_comm (l₁:= [bJ g t cs]))
def H3 {ops:Array Oper} {L:Env} {H H':List HB} {hs hN:List Nat} {i b g:Nat} {x:Op×TypeId} {v:Value} (hx:ef ops L i=some x) (hr:L_ P w.heap.size L H hs x=some (v,H',hN,b,g)) (he:b=g) (hS:SH U w0 w H):
 One P n ops Q i L w fun u w'=>u=v∧SH U w0 w' H':=by
 unfold L_ at hr
 split at hr
 ·rename_i r hm
  simp only [a9] at hr
  subst hr
  exact H0 hx hm he hS
 ·split at hr
  ·rename_i u hq
   simp only [a9,bI] at hr
   obtain ⟨rfl,rfl,_,_,_⟩:=hr
   exact tx hx hq hS
  ·split at hr
   ·rename_i u hp
    simp only [a9,bI] at hr
    obtain ⟨rfl,rfl,_,_,_⟩:=hr
    exact qpe
   ·rename_i hp
    simp only [a9,bI] at hr
    obtain ⟨rfl,rfl,_,_,_⟩:=hr
    exact jQ hx (eO hp w) ⟨rfl,hS⟩
   ·cases hr
   ·split at hr
    ·rename_i cs t u hn
     simp only [a9,bI] at hr
     obtain ⟨rfl,rfl,_,_,_⟩:=hr
     refine cY hx (uc hn rfl) ⟨rfl,SH.push ?_⟩
     have h2:=pH.alloc (St.start No w) t cs.toList
     exact hS.wC (Ch.alloc _ _) (by simpa using h2.all _ cE) fun b hb=>by
      exact qvv
    ·cases hr
def H4 {ops:Array Oper} {L:Env} {H H':List HB} {hs hN:List Nat} {is:List Nat} {i b g:Nat} {v:Value} (hr:D0 P n ops w.heap.size i L H hs=some (v,H',hN,b,g)) (he:b=g) (hS:SH U w0 w H)
 (hk: ∀w',SH U w0 w' H'→WO P n ops is (L.put (eN ops i) v) Q w'):WO P n ops (i::is) L Q w:=by
 unfold D0 at hr
 cases hd:iU n ops i with
 |false=>rw [hd] at hr;cases hr
 |true=>
  rw [hd,cond_true] at hr
  cases ho:ops[i]?with
  |none=>rw [ho] at hr;cases hr
  |some o=>
   rw [ho] at hr
   simp only at hr
   cases hw:gT ops L o with
   |none=>rw [hw] at hr;cases hr
   |some q=>
    rw [hw] at hr
    cases q with
    |false=>
     simp only [a9,bI] at hr
     obtain ⟨rfl,rfl,_,_,_⟩:=hr
     refine CL (Post:=fun u w'=>u=undef∧w'=w) hd (tw (v:=undef) ?_ ⟨rfl,rfl⟩) fun u w' h=>by obtain ⟨rfl,rfl⟩:=h;exact hk _ hS
     simp [pd,ho,hw]
    |true=>
     simp only at hr
     cases hA:L.jk o with
     |false=>rw [hA] at hr;cases hr
     |true=>
      rw [hA,cond_true] at hr
      have hx:ef ops L i=some (o.op,o.type):=by simp [ef,ho,hw,hA]
      exact CL hd (H3 hx hr he hS) fun u w' h=>by obtain ⟨rfl,h⟩:=h;exact hk _ h
def _N (id:Nat):List Kt→Option (List Kt)
 | []=>none
 |.e id'::ks=>bif Nat.beq id id' then some ks else _N id ks
 |_::ks=>_N id ks
def Vz {id:Nat} {a:Act} {ks mW:List Kt} (h:_N id ks=some mW) (hd:DK P Q mW .normal a w):DK P Q ks (.exit id) a w:=by
 induction ks with
 |nil=>cases h
 |cons x ks ih=>
  cases x with
  |e id'=>
   simp only [_N] at h
   cases hb:Nat.beq id id' with
   |true=>
    rw [hb] at h
    simp only [cond_true,a9] at h
    subst h
    have:=dh hb
    subst this
    simpa [DK,Exit.inBlock] using hd
   |false=>
    rw [hb] at h
    have rz:=Nat.ne_of_beq_eq_false hb
    simpa [DK,Exit.inBlock,rz] using ih h
  |_=>exact ih h
structure X where
 s:S
 hs:List Nat
 eL:List Nat
 eR:List Nat
instance:Inhabited X:=⟨⟨default,[],[],[]⟩⟩
def uX (L:Env) (ks:List Kt):Code→Option (List Kt)
 |.seq a b=>some (.c a::.c b::ks)
 |.skip|.label _=>some ks
 |.region _ ops false=>some (.o ops (List.range ops.size)::ks)
 |.block id body=>some (.c body::.e id::ks)
 |.cond c a b=>bif L.has c then match L.ev c with
  |.bool true=>some (.c a::ks)
  |.bool false=>some (.c b::ks)
  |_=>none
  else none
 |.exit id=>_N id ks
 |_=>none
def step (P:Program) (n g:Nat) (x:X):Option X:=
 match x.s.ks with
 |.c c::ks=>(uX x.s.L ks c).map fun mW=> {x with s:= {x.s with ks:=mW}}
 |.e _::ks|.o _ []::ks=>some {x with s:= {x.s with ks:=ks}}
 |.o ops (i::is)::ks=>(D0 P n ops g i x.s.L x.s.H x.hs).map fun r=>⟨⟨x.s.L.put (eN ops i) r.1,r.2.1,.o ops is::ks⟩,r.2.2.1,r.2.2.2.1::x.eL,r.2.2.2.2::x.eR⟩
 |_=>none
def run (P:Program) (n:Nat):(Nat→Nat)→Nat→X→Option X
 |_,0,x=>some x
 |γ,k+1,x=>match step P n (γ 0) x with
  |some x'=>run P n (fun i=>γ (i+1)) k x'
  |none=>none
def BZ {L:Env} {H:List HB} {ks mW:List Kt} {c:Code} (h:uX L ks c=some mW) (hg:G P n U w0 Q ⟨L,H,mW⟩):G P n U w0 Q ⟨L,H,.c c::ks⟩:=by
 refine ⟨fun w hS a ha=>?_⟩
 have hk:=hg.go w hS a ha
 show c.wp P (DK P Q ks) a w
 unfold uX at h
 split at h
 ·cases h;exact wp_seq hk
 ·cases h;exact wp_skip hk
 ·cases h;exact wp_label hk
 ·cases h;exact wp_region hk
 ·cases h;exact wp_block hk
 ·rename_i c x y
  cases hh:L.has c with
  |false=>rw [hh] at h;cases h
  |true=>
   rw [hh,cond_true] at h
   split at h
   ·rename_i he;cases h;exact wp_cond_true (by rw [ha.eval hh,he]) hk
   ·rename_i he;cases h;exact wp_cond_false (by rw [ha.eval hh,he]) hk
   ·cases h
 ·exact wp_exit (Vz h hk)
 ·cases h
def Qr {x:X} (h: ∀g,∃x',step P n g x=some x'∧x'.eL=x'.eR∧G P n U w0 Q x'.s):G P n U w0 Q x.s:=by
 refine ⟨fun w hS a ha=>?_⟩
 obtain ⟨x',h1,h2,h3⟩:=h w.heap.size
 obtain ⟨⟨L,H,ks⟩,hs,eL,eR⟩:=x
 unfold step at h1
 simp only at h1 hS ha⊢
 split at h1
 ·rename_i c ks
  simp only [fV] at h1
  obtain ⟨mW,h4,rfl⟩:=h1
  exact (BZ h4 h3).go w hS a ha
 ·cases h1;exact h3.go w hS a ha
 ·cases h1;exact h3.go w hS a ha
 ·rename_i ops i is ks
  simp only [fV] at h1
  obtain ⟨⟨v,H',hN,b,g⟩,h4,rfl⟩:=h1
  simp only [List.cons.injEq] at h2
  have:=H4 (Q:=DK P Q ks) (is:=is) h4 h2.1 hS fun w' hw a' N9=>h3.go w' hw a' N9
  exact this a ha
 ·cases h1
def step_eq {g:Nat} {x x':X} (h:step P n g x=some x') (he:x'.eL=x'.eR):x.eL=x.eR:=by
 obtain ⟨⟨L,H,ks⟩,hs,eL,eR⟩:=x
 unfold step at h
 simp only at h⊢
 split at h
 ·simp only [fV] at h
  obtain ⟨_,_,rfl⟩:=h
  exact he
 ·cases h;exact he
 ·cases h;exact he
 ·simp only [fV] at h
  obtain ⟨r,_,rfl⟩:=h
  simp only [List.cons.injEq] at he
  exact he.2
 ·cases h
def run_eq: ∀ {k:Nat} {γ:Nat→Nat} {x x':X},run P n γ k x=some x'→x'.eL=x'.eR→x.eL=x.eR
 |0,_,_,_,h,he=>by cases h;exact he
 |k+1,γ,x,x',h,he=>by
  simp only [run] at h
  split at h
  ·rename_i y hy
   exact step_eq hy (run_eq h he)
  ·cases h
def Ma: ∀ {k:Nat} {x:X},(∀γ,∃x',run P n γ k x=some x'∧x'.eL=x'.eR∧G P n U w0 Q x'.s)→G P n U w0 Q x.s
 |0,x,h=>by
  obtain ⟨x',h1,_,h3⟩:=h fun _=>0
  cases h1
  exact h3
 |k+1,x,h=>Qr fun g=>by
  obtain ⟨x',h1,h2,h3⟩:=h fun i=>match i with|0=>g|i+1=>0
  simp only [run] at h1
  cases hs:step P n g x with
  |none=>rw [hs] at h1;cases h1
  |some y=>
   rw [hs] at h1
   refine ⟨y,rfl,run_eq h1 h2,Ma (k:=k) fun γ=>?_⟩
   obtain ⟨x',h1,h2,h3⟩:=h fun i=>match i with|0=>g|i+1=>γ i
   simp only [run,hs] at h1
   exact ⟨x',h1,h2,h3⟩
def VA:Option X→List Nat|some x=>x.eL|none=> [0]
def VB:Option X→List Nat|some x=>x.eR|none=> [1]
def ae (k:Nat) (hs:List Nat) (g: ∀γ,G P n U w0 Q ((run P n γ k ⟨s,hs,[],[]⟩).getD default).s) (h: ∀γ,VA (run P n γ k ⟨s,hs,[],[]⟩)=VB (run P n γ k ⟨s,hs,[],[]⟩):=by intro _;kernel_rfl):G P n U w0 Q s:=
 Ma (x:=⟨s,hs,[],[]⟩) fun γ=>by
  have h2:=h γ
  have h3:=g γ
  cases hy:run P n γ k ⟨s,hs,[],[]⟩ with
  |none=>rw [hy] at h2;simp [VA,VB] at h2
  |some y=>rw [hy] at h2 h3;exact ⟨y,rfl,h2,h3⟩
end
section
variable {P:Program} {n:Nat} {U:Nat→Prop} {w0 w:World} {Q:Exit→Act→World→Prop} {s:S}
def S.cur (s:S):Option (Op×TypeId):=match s.ks with|.o ops (i::_)::_=>ef ops s.L i|_=>none
def S.vu (n:Nat) (s:S):Bool:=match s.ks with|.o ops (i::_)::_=>iU n ops i|_=>false
def S.dT (s:S) (v:Value) (H:List HB):S:=match s.ks with|.o ops (i::is)::ks=>⟨s.L.put (eN ops i) v,H,.o ops is::ks⟩|_=>s
def iS (hd:s.vu n=true) (h: ∀w,SH U w0 w s.H→ ∀ops Q' i,ef ops s.L i=s.cur→One P n ops Q' i s.L w fun v w'=> ∃H',SH U w0 w' H'∧G P n U w0 Q (s.dT v H')):G P n U w0 Q s:=by
 refine ⟨fun w hS a ha=>?_⟩
 obtain ⟨L,H,ks⟩:=s
 cases ks with
 |nil=>cases hd
 |cons k ks=>
  cases k with
  |o ops is=>
   cases is with
   |nil=>cases hd
   |cons i is=>
    have:=h w hS ops (DK P Q ks) i rfl
    exact CL (Q:=DK P Q ks) (is:=is) hd this (fun v w' ⟨H',hs,hg⟩=>fun a' N9=>hg.go w' hs a' N9) a ha
  |_=>cases hd
def pk (H:List HB) (tk:List Nat):List aM:=tk.map fun i=>(H.getD i (.k aM.emp)).gf
def Xs (H:List HB):List Nat→List HB
 | []=>H
 |i::tk=>Xs (H.set i (.k aM.emp)) tk
def dR (m:Nat):List Nat→Bool
 | []=>true
 |i::tk=>Nat.blt i m&& !has tk i&&dR m tk
def SS.KC {K:List aM} (h:SS U w0 w K):SS U w0 w (aM.emp::K):=h.le (aM.tO _)
def SS.VY {H:List HB} {i:Nat} (hi:i<H.length) {K:List aM} (h:SS U w0 w (K++H.map HB.gf)):SS U w0 w ((H.getD i (.k aM.emp)).gf::K++(H.set i (.k aM.emp)).map HB.gf):=by
 have e1:(H.map HB.gf)[i]? =some (H.getD i (.k aM.emp)).gf:=by rw [fk,bA,dw hi];rfl
 rw [List.map_set]
 have h2:=((h.perm ((List.Perm.append_left K (iG e1)).trans List.perm_middle)).KC).perm (List.Perm.swap _ _ _)
 exact h2.perm (((List.perm_middle (l₁:=K)).symm.trans (List.Perm.append_left K (p' e1))).cons _)
def VZ {H:List HB} {i:Nat} {x:HB} {tk:List Nat} (h:has tk i=false):pk (H.set i x) tk=pk H tk:=by
 refine List.map_congr_left fun j hj=>?_
 have rz:i≠j:=fun e=>by subst e;rw [dq.2 hj] at h;cases h
 simp [bA,lX rz]
def SS.fS: ∀ {tk:List Nat} {H:List HB} {K:List aM},dR H.length tk=true→SS U w0 w (K++H.map HB.gf)→SS U w0 w (pk H tk++K++(Xs H tk).map HB.gf)
 | [],H,K,_,h=>h
 |i::tk,H,K,hk,h=>by
  simp only [dR,da,Bool.not_eq_true'] at hk
  obtain ⟨⟨h1,h2⟩,h3⟩:=hk
  have h4:=SS.fS (tk:=tk) (K:=(H.getD i (.k aM.emp)).gf::K) (by rw [cX];exact h3) (SS.VY (dF h1) h)
  rw [VZ h2] at h4
  refine h4.perm (List.Perm.append_right _ ?_)
  exact List.perm_middle
def SH.fS {tk:List Nat} {H:List HB} (hk:dR H.length tk=true) (h:SH U w0 w H):SS U w0 w (pk H tk++(Xs H tk).map HB.gf):=by
 have:=SS.fS (K:= []) hk h
 exact Rf
def SH.pick {tk:List Nat} {H:List HB} (hk:dR H.length tk=true) (h:SH U w0 w H):SS U w0 w (pk H tk):=(h.fS hk).front
def gv (H:List HB) (tk:List Nat) (C:List HB):List HB:=Xs H tk++C
def SH.lr {tk:List Nat} {H C:List HB} (h:SS U w0 w (C.map HB.gf++(Xs H tk).map HB.gf)):SH U w0 w (gv H tk C):=by
 unfold SH gv
 rw [cT]
 exact h.perm List.perm_append_comm
def S.call (P:Program) (s:S):Option (FuncId×Array Value):=match s.cur with
 |some x=>match bc P (ex s.L x) with|some (.enter f args)=>some (f,args)|_=>none
 |none=>none
def Er (C:List aM):(C.map HB.k).map HB.gf=C:=by
 rw [List.map_map];exact (List.map_congr_left fun _ _=>rfl).trans (List.map_id _)
def ah {f:FuncId} {args:Array Value} {jx:World→Prop} {C:List aM} {R:Value→List aM→Prop} (ct:Ct P f args jx C R) (tk:List Nat) (hp: ∀w,SH U w0 w s.H→jx w) (k: ∀v C',R v C'→G P n U w0 Q (s.dT v (gv s.H tk (C'.map .k)))) (h:(s.call P,s.vu n,dR s.H.length tk,pk s.H tk)=(some (f,args),true,true,C):=by kernel_rfl):G P n U w0 Q s:=by
 simp only [bI] at h
 obtain ⟨hr,hd,hk,hC⟩:=h
 subst hC
 refine iS hd fun w hS ops Q' i hx=>?_
 unfold S.call at hr
 cases hc:s.cur with
 |none=>rw [hc] at hr;cases hr
 |some x=>
  rw [hc] at hr hx
  simp only at hr
  cases zO:bc P (ex s.L x) with
  |none=>rw [zO] at hr;cases hr
  |some y=>
   rw [zO] at hr
   cases y with
   |enter f' tA=>
    simp only [a9,bI] at hr
    obtain ⟨rfl,rfl⟩:=hr
    refine CI x tA hx zO ct (hp w hS) (hS.fS hk) fun v C' w' hR hs=>qmb
   |_=>cases hr
def S.WX (s:S):Option Value:=match s.ks with|.c (.cond c _ _)::_=>bif s.L.has c then some (s.L.ev c) else none|_=>none
def S.WY (s:S):S:=match s.ks with|.c (.cond _ a _)::ks=> {s with ks:=.c a::ks}|_=>s
def S.iff (s:S):S:=match s.ks with|.c (.cond _ _ b)::ks=> {s with ks:=.c b::ks}|_=>s
def eQ (t:Bool) (kt:t=true→G P n U w0 Q s.WY) (kf:t=false→G P n U w0 Q s.iff) (h:s.WX=some (.bool t):=by kernel_rfl):G P n U w0 Q s:=by
 refine ⟨fun w hS a ha=>?_⟩
 obtain ⟨L,H,ks⟩:=s
 unfold S.WX at h
 unfold S.WY at kt
 unfold S.iff at kf
 simp only at h kt kf hS ha⊢
 split at h
 ·rename_i c x y ks
  cases hh:L.has c with
  |false=>rw [hh] at h;cases h
  |true=>
   rw [hh,cond_true,a9] at h
   exact wp_cond_split (t:=t) (by rw [ha.eval hh,h]) (fun e=>(kt e).go w hS a ha) fun e=>(kf e).go w hS a ha
 ·cases h
def S.put (s:S) (d:Nat) (v:Value):S:= {s with L:=(d,v)::s.L}
def aC (d:Nat) (v old:Value) (e:old=v) (k:G P n U w0 Q (s.put d v)) (h:s.L.get d=some old:=by kernel_rfl):G P n U w0 Q s:=by
 subst e
 refine ⟨fun w hS a ha=>?_⟩
 exact k.go w hS a (ha.mono fun t u hu=>by
  simp only [S.put,Env.sY] at hu
  by_cases e:d=t
  ·subst e;rw [if_pos rfl] at hu;rw [h,hu]
  ·rw [if_neg e] at hu;exact hu)
def eg (d:Nat) (t:Bool) (kt:t=true→G P n U w0 Q (s.put d (.bool true))) (kf:t=false→G P n U w0 Q (s.put d (.bool false))) (h:s.L.get d=some (.bool t):=by kernel_rfl):G P n U w0 Q s:=by
 cases t with
 |true=>exact aC (h:=h) d _ _ rfl (kt rfl)
 |false=>exact aC (h:=h) d _ _ rfl (kf rfl)
def ao (d:Nat) (x:Int) (k:G P n U w0 Q (s.put d (.int .i64 x))) (e: -9223372036854775808≤x∧x≤9223372036854775807:=by omega) (h:s.L.get d=some (.int .i64 (IntKind.i64.wrap x)):=by kernel_rfl):G P n U w0 Q s:=
 aC (h:=h) d _ _ (by rw [wrap_i64 e]) k
def rW (P:Program) (L:Env) (H:List HB):List ResultVar→List Nat→Option (List Value×List Nat×List Nat)
 | [],_=>some ([],[],[])
 |.tmp t::rs,hs=>match L.get t,rW P L H rs hs with
  |some v,some (vs,a,b)=>some (v::vs,a,b)
  |_,_=>none
 |.cell t ty::rs,hs=>match L.get t with
  |some u=>match jP P H ty u hs with
   |some (v,hN,b,g)=>match rW P L H rs hN with
    |some (vs,x,y)=>some (v::vs,b::x,g::y)
    |none=>none
   |none=>none
  |none=>none
def zf {L:Env} {H:List HB} (hS:SH U w0 w H): ∀ {rs:List ResultVar} {hs:List Nat} {vs:List Value} {x y:List Nat},rW P L H rs hs=some (vs,x,y)→x=y→Qa P L w rs vs
 | [],_,_,_,_,h,_=>by simp only [rW,a9,bI] at h;obtain ⟨rfl,_,_⟩:=h;exact .nil
 |.tmp t::rs,hs,vs,x,y,h,he=>by
  simp only [rW] at h
  split at h
  ·rename_i v us a b h1 h2
   simp only [a9,bI] at h
   obtain ⟨rfl,rfl,rfl⟩:=h
   exact .tmp h1 (zf hS h2 he)
  ·cases h
 |.cell t ty::rs,hs,vs,x,y,h,he=>by
  simp only [rW] at h
  split at h
  ·rename_i u hu
   split at h
   ·rename_i v hN b g hl
    split at h
    ·rename_i us x y hr
     simp only [a9,bI] at h
     obtain ⟨rfl,rfl,rfl⟩:=h
     simp only [List.cons.injEq] at he
     obtain ⟨a,h4,h5⟩:=rv hl he.1 hS
     subst h4
     exact .cell hu h5 (zf hS hr he.2)
    ·cases h
   ·cases h
  ·cases h
def S.MH (s:S):Bool:=match s.ks with| []|.c .ret::_=>true|_=>false
def S.ret (P:Program) (fn:Func) (s:S) (hs:List Nat):Value:=Vs ((rW P s.L s.H fn.results.toList hs).getD ([],[],[])).1
def V0 {a:Act} (h:Q .ret a w) {ks:List Kt}:DK P Q ks .ret a w:=by
 induction ks with
 |nil=>exact h
 |cons k ks ih=>cases k<;>exact ih
def rV (P:Program) (fn:Func) (U:Nat→Prop) (w0:World) (R:Value→List aM→Prop):Exit→Act→World→Prop:=bodyPost P fn fun e w'=> ∃v,e=.returned v∧ ∃C',R v C'∧SS U w0 w' C'
def QK:Option (List Value×List Nat×List Nat)→List Nat|some x=>x.2.1|none=> [0]
def QL:Option (List Value×List Nat×List Nat)→List Nat|some x=>x.2.2|none=> [1]
def bk {fn:Func} {R:Value→List aM→Prop} (hs ids:List Nat) (hR:R (s.ret P fn hs) (pk s.H ids)) (h:(QK (rW P s.L s.H fn.results.toList hs),s.MH,dR s.H.length ids)=(QL (rW P s.L s.H fn.results.toList hs),true,true):=by kernel_rfl):G P n U w0 (rV P fn U w0 R) s:=by
 simp only [bI] at h
 obtain ⟨h2,hi,hk⟩:=h
 have h1:(rW P s.L s.H fn.results.toList hs).isSome=true:=by
  cases hr:rW P s.L s.H fn.results.toList hs with
  |none=>rw [hr] at h2;simp [QK,QL] at h2
  |some x=>rfl
 refine ⟨fun w hS a ha=>?_⟩
 obtain ⟨⟨vs,x,y⟩,h3⟩:=Option.isSome_iff_exists.1 h1
 rw [h3] at h2
 simp only [QK,QL] at h2
 have ahv:=zf hS h3 h2
 have hv:s.ret P fn hs=Vs vs:=by simp [S.ret,h3]
 have uo:=ahv.run (fn:=fn) (by simp) ha
 have B7: ∃v,Ending.returned (Vs vs)=.returned v∧ ∃C',R v C'∧SS U w0 w C':=⟨_,rfl,_,by rw [← hv];exact hR,hS.pick hk⟩
 obtain ⟨L,H,ks⟩:=s
 unfold S.MH at hi
 split at hi
 ·rename_i lq
  simp only at lq
  subst lq
  exact ⟨ha.defers,Vs vs,uo,B7⟩
 ·rename_i ks lq
  simp only at lq
  subst lq
  exact wp_ret (V0 (P:=P) (Q:=rV P fn U w0 R) (ks:=ks) ⟨ha.defers,Vs vs,uo,B7⟩)
 ·cases hi
def cc {f:FuncId} {fn:Func} {args:List Value} {jx:World→Prop} {R:Value→List aM→Prop} (hf:P.funcs[f]? =some fn)
 (h: ∀w0,jx w0→G P fn.ntmps No w0 (rV P fn No w0 R) ⟨l6 0 args,[],[.c (fn.body.getD .skip)]⟩) (hb:fn.body.isSome=true:=by rfl) (hn:Nat.ble args.length fn.ntmps=true:=by rfl):Ct P f args.toArray jx [] R:=by
 obtain ⟨c,hc⟩:=Option.isSome_iff_exists.1 hb
 refine U8 hf hc hn fun w hp a ha=>?_
 have:=(h w hp).go w (SS.nil No w) a ha
 rw [hc] at this
 exact this
def Fz {f:FuncId} {fn:Func} {args:List Value} (C:List HB) {jx:World→Prop} {R:Value→List aM→Prop} (hf:P.funcs[f]? =some fn)
 (h: ∀U w0,jx w0→G P fn.ntmps U w0 (rV P fn U w0 R) ⟨l6 0 args,C,[.c (fn.body.getD .skip)]⟩) (hb:fn.body.isSome=true:=by rfl) (hn:Nat.ble args.length fn.ntmps=true:=by rfl):Ct P f args.toArray jx (C.map HB.gf) R:=by
 obtain ⟨c,hc⟩:=Option.isSome_iff_exists.1 hb
 refine _q hf hc hn fun U w hp hS a ha=>?_
 exact qnw
end
section
variable {P:Program} {n:Nat} {U:Nat→Prop} {w0 w:World} {Q:Exit→Act→World→Prop} {s:S}
def cz (A:OA):Addr:=A.getD default
def uG {A:OA} (h:A.isSome=true):A=some (cz A):=by
 cases A with
 |none=>cases h
 |some a=>rfl
def Rc.cd {A:OA} {cs:List Value} {w:World} (h:Rc A cs w) (hl:0<cs.length):A.isSome=true:=by
 obtain ⟨a,rfl⟩:=h.addr hl;rfl
def I8 (P:Program) (L:Env):Op×TypeId→Option (OA×Nat×Int×Nat)
 |(.indexAddr t x y,_)=>match L.ev x,L.ev y,bc P (underlying t) with
  |.slice A len _,.int _ j,some (.slice e)=>(bc P (sizeOf e)).map fun sz=>(A,len,j,sz)
  |_,_,_=>none
 |_=>none
def xC {A:OA} {len sz:Nat} {j:Int} {x:Op×TypeId} {L:Env} {ops:Array Oper} {i:Nat} (hx:ef ops L i=some x) (h:I8 P L x=some (A,len,j,sz)) (hj:0≤j∧j<len) (hA:A.isSome=true)
 {Post:Value→World→Prop} (hp:Post (.pointer (some ((cz A).add (j.toNat*sz)))) w):One P n ops Q i L w Post:=by
 unfold I8 at h
 split at h
 ·split at h
  ·rename_i t x y _ _ _ _ A' Ji k8 k j' e h1 h2 h3
   simp only [fV,bI] at h
   obtain ⟨sz',h4,rfl,rfl,rfl,rfl⟩:=h
   rw [uG hA] at h1
   exact FZ hx h1 h2 h3 h4 hj.1 hj.2 hp
  ·cases h
 ·cases h
def XL (L:Env):Op×TypeId→Option (TypeId×Addr)
 |(.load t x,_)=>match L.ev x with
  |.pointer (some a)=>some (t,a)
  |_=>none
 |_=>none
def CH {t:TypeId} {a:Addr} {v:Value} {x:Op×TypeId} {L:Env} {ops:Array Oper} {i:Nat} (hx:ef ops L i=some x) (h:XL L x=some (t,a)) (hv:(loadVar t a).run P w=.ok v w)
 {Post:Value→World→Prop} (hp:Post v w):One P n ops Q i L w Post:=by
 unfold XL at h
 split at h
 ·split at h
  ·rename_i t' x ty a' ha
   simp only [a9,bI] at h
   obtain ⟨rfl,rfl⟩:=h
   exact pO hx ha hv hp
  ·cases h
 ·cases h
def S.nx {α:Type} (s:S) (f:Env→Op×TypeId→Option α):Option α:=s.cur.bind (f s.L)
def S.fU {α:Type} {f:Env→Op×TypeId→Option α} {r:α} (h:s.nx f=some r): ∃x,s.cur=some x∧f s.L x=some r:=Option.bind_eq_some_iff.1 h
def aV (A:OA) (len:Nat) (j:Int) (sz:Nat) (hA: ∀w,SH U w0 w s.H→A.isSome=true) (k:G P n U w0 Q (s.dT (.pointer (some ((cz A).add (j.toNat*sz)))) s.H)) (h:(s.nx (I8 P),s.vu n)=(some (A,len,j,sz),true):=by kernel_rfl) (hj:0≤j∧j<len:=by omega):G P n U w0 Q s:=by
 simp only [bI] at h
 obtain ⟨h1,h2⟩:=h
 obtain ⟨x,hc,h1⟩:=S.fU h1
 exact iS h2 fun w hS ops Q' i hx=>xC (hx.trans hc) h1 hj (hA w hS) ⟨_,hS,k⟩
def bd (t:TypeId) (a:Addr) (v:Value) (hv: ∀w,SH U w0 w s.H→(loadVar t a).run P w=.ok v w) (k:G P n U w0 Q (s.dT v s.H)) (h:(s.nx XL,s.vu n)=(some (t,a),true):=by kernel_rfl):G P n U w0 Q s:=by
 simp only [bI] at h
 obtain ⟨h1,h2⟩:=h
 obtain ⟨x,hc,h1⟩:=S.fU h1
 exact iS h2 fun w hS ops Q' i hx=>CH (hx.trans hc) h1 (hv w hS) ⟨_,hS,k⟩
def Rc.ld1 {A:OA} {cs:List Value} {t:TypeId} {j:Nat} {v:Value} (h:Rc A cs w) (hv:cs[j]? =some v) (ht:bc P (isAgg t)=some false):(loadVar t ((cz A).add j)).run P w=.ok v w:=by
 have hA:=uG (Rc.cd h (by have:=(aN.1 hv).1;omega))
 rw [hA] at h
 exact Rc.load h ht hv
def Rc.ldN {A:OA} {cs sub:List Value} {t:TypeId} {j m:Nat} (h:Rc A cs w) (hv:(cs.drop j).take m=sub) (hm:sub.length=m) (h0:0<m) (ht:bc P (isAgg t)=some true) (hs:bc P (sizeOf t)=some m):(loadVar t ((cz A).add j)).run P w=.ok (.agg sub.toArray) w:=by
 have hl:0<cs.length:=by
  rcases Nat.eq_zero_or_pos cs.length with h1|h1
  ·have:cs= []:=dV.1 h1
   subst this
   simp at hv
   subst hv
   simp at hm
   omega
  ·exact h1
 have hA:=uG (Rc.cd h hl)
 rw [hA] at h
 exact Rc.ZR h ht (by rw [hs,hm]) (by rw [hm];exact hv)
def js (tk:List Nat) (C:List aM) (C':List HB) (h:(dR s.H.length tk,pk s.H tk)=(true,C)) (hc: ∀w K,SS U w0 w (C++K)→SS U w0 w (C'.map HB.gf++K)) (k:G P n U w0 Q {s with H:=gv s.H tk C'}):G P n U w0 Q s:=by
 simp only [bI] at h
 obtain ⟨h1,rfl⟩:=h
 exact ⟨fun w hS a ha=>k.go w (SH.lr (tk:=tk) (hc w _ (hS.fS h1))) a ha⟩
def dN {φ:Prop} (h: ∀w,SH U w0 w s.H→φ) (k:φ→G P n U w0 Q s):G P n U w0 Q s:=⟨fun w hS a ha=>(k (h w hS)).go w hS a ha⟩
def yT (L E:Env):List (Option Value):=E.map fun p=>L.get p.1
def qC (E:Env):List (Option Value):=E.map fun p=>some p.2
def kS {L:Env}: ∀ {E:Env},yT L E=qC E→Env.sub E L
 | [],_=>Env.PE L
 |(k,v)::E,h=>by
  simp only [yT,qC,fm,List.cons.injEq] at h
  exact Env.Lo h.1 (kS h.2)
def Cv (H:List HB) (ids:List Nat):List HB:=ids.map fun i=>H.getD i (.k aM.emp)
def SH.Cv {H:List HB} {ids:List Nat} (hk:dR H.length ids=true) (h:SH U w0 w H):SH U w0 w (Cv H ids):=by
 have:=h.pick hk
 unfold SH
 unfold bE.Cv
 rw [List.map_map]
 exact this
def S.yU (s:S):Bool:=match s.ks with|.c (.loop _)::_=>true|_=>false
def S.UI (s:S) (X:Act→World→Prop):List Kt:=match s.ks with|.c (.loop b)::ks=>.c b::.i X::ks|_=> []
def S.atI (s:S):Option (Act→World→Prop):=match s.ks with|.i X::_=>some X|_=>none
def aR {σ:Type} (E:σ→Env) (Hs:σ→List HB) (φ:σ→Prop) (μ:σ→Nat) (x0:σ) (ids:List Nat) (h0:φ x0) (body: ∀X x,φ x→(∀s' x' lg,(S.atI s',dR s'.H.length lg,yT s'.L (E x'),Cv s'.H lg)=(some X,true,qC (E x'),Hs x')→φ x'→μ x'<μ x→G P n U w0 Q s')→G P n U w0 Q ⟨E x,Hs x,s.UI X⟩) (h:(s.yU,dR s.H.length ids,yT s.L (E x0),Cv s.H ids)=(true,true,qC (E x0),Hs x0):=by kernel_rfl):G P n U w0 Q s:=by
 simp only [bI] at h
 obtain ⟨h1,h2,h3,h4⟩:=h
 refine ⟨fun w hS a ha=>?_⟩
 have Lp:=SH.Cv h2 hS
 rw [h4] at Lp
 obtain ⟨L,H,ks⟩:=s
 unfold S.yU at h1
 split at h1
 ·rename_i b mW lq
  simp only at lq
  subst lq
  refine UJ (Q:=DK P Q mW) E (fun x w=>φ x∧SH U w0 w (Hs x)) μ x0 (kS h3) ⟨h0,Lp⟩ ?_ a ha
  rintro x w ⟨hx,hw⟩ a ha
  refine (body (fun a' w'=> ∃s',Fr n (E s') a'∧(φ s'∧SH U w0 w' (Hs s'))∧μ s'<μ x) x hx ?_).go w hw a ha
  intro s' x' lg h Bp hm
  simp only [bI] at h
  obtain ⟨h5,h6,h7,h8⟩:=h
  refine ⟨fun w2 CG a2 Dm=>?_⟩
  have lu:=SH.Cv h6 CG
  rw [h8] at lu
  obtain ⟨L2,H2,nz⟩:=s'
  unfold S.atI at h5
  split at h5
  ·rename_i X Ff hk
   simp only at hk
   subst hk
   simp only [a9] at h5
   subst h5
   exact ⟨x',Dm.mono (kS h7),⟨Bp,lu⟩,hm⟩
  ·cases h5
 ·cases h1
def S.lJ (s:S):Code:=match s.ks with|.c (.scope c)::_=>c|_=>.skip
def S.oG (s:S):List Kt:=match s.ks with|.c (.scope _)::ks=>ks|_=> []
def S.tj (s:S):Bool:=match s.ks with|.c (.scope _)::_=>true|_=>false
def behind (c:Code) (l:Nat):Code:=match findLabel c l with|some (.seq .skip R)=>R|_=>.skip
def qD (c:Code) (l:Nat):Bool:=match findLabel c l with|some (.seq .skip _)=>true|_=>false
def sm {c:Code} {l:Nat} (h:qD c l=true):findLabel c l=some (.seq .skip (behind c l)):=by
 unfold qD at h
 unfold behind
 split at h
 ·rename_i R e;rw [e]
 ·cases h
def unl:List Kt→Option (Nat→Act→World→Prop)
 | []=>none
 |.l J::_=>some J
 |_::ks=>unl ks
def UK {l:Nat} {a:Act} {J:Nat→Act→World→Prop} {ks:List Kt} (h:unl ks=some J) (hd:J l a w):DK P Q ks (.goto l) a w:=by
 induction ks with
 |nil=>cases h
 |cons x ks ih=>
  cases x with
  |l J'=>simp only [unl,a9] at h;subst h;exact hd
  |_=>exact ih h
def S.gto (s:S):Option (Nat×(Nat→Act→World→Prop)):=match s.ks with
 |.c (.goto l)::ks=>(unl ks).map fun J=>(l,J)
 |_=>none
def Si {l:Nat} {J:Nat→Act→World→Prop} (h:s.gto=some (l,J)) (hJ: ∀w,SH U w0 w s.H→ ∀a,Fr n s.L a→J l a w):G P n U w0 Q s:=by
 refine ⟨fun w hS a ha=>?_⟩
 have hh:=hJ w hS a ha
 obtain ⟨L,H,ks⟩:=s
 unfold S.gto at h
 split at h
 ·rename_i l' mW hk
  simp only at hk
  subst hk
  simp only [fV,bI] at h
  obtain ⟨J',h1,rfl,rfl⟩:=h
  exact wp_goto (UK (P:=P) (Q:=Q) h1 hh)
 ·cases h
def ed {σ:Type} (l0:Nat) (E:σ→Env) (Hs:σ→List HB) (φ:σ→Prop) (μ:σ→Nat) (first: ∀J,(∀s' x' lg,(s'.ks,dR s'.H.length lg,yT s'.L (E x'),Cv s'.H lg)=(.c (behind s.lJ l0)::.l J::s.oG,true,qC (E x'),Hs x')→φ x'→G P n U w0 Q s')→G P n U w0 Q ⟨s.L,s.H,.c s.lJ::.l J::s.oG⟩) (pass: ∀J x,φ x→(∀s' x' lg,(S.gto s',dR s'.H.length lg,yT s'.L (E x'),Cv s'.H lg)=(some (l0,J),true,qC (E x'),Hs x')→φ x'→μ x'<μ x→G P n U w0 Q s')→G P n U w0 Q ⟨E x,Hs x,.c (behind s.lJ l0)::.l J::s.oG⟩) (h:(s.tj,qD s.lJ l0)=(true,true):=by kernel_rfl):G P n U w0 Q s:=by
 simp only [bI] at h
 obtain ⟨h1,h2⟩:=h
 refine ⟨fun w hS a ha=>?_⟩
 obtain ⟨L,H,ks⟩:=s
 unfold S.tj at h1
 split at h1
 ·rename_i c mW lq
  simp only at lq
  subst lq
  refine BF (Q:=DK P Q mW) l0 E (fun x w=>φ x∧SH U w0 w (Hs x)) μ (sm h2) ?_ ?_ a ha
  ·rintro x w ⟨hx,hw⟩ a ha
   refine (pass (fun l a' w'=>l=l0∧ ∃s',Fr n (E s') a'∧(φ s'∧SH U w0 w' (Hs s'))∧μ s'<μ x) x hx ?_).go w hw a ha
   intro s' x' lg h Bp hm
   simp only [bI] at h
   obtain ⟨h5,h6,h7,h8⟩:=h
   refine Si h5 fun w2 CG a2 Dm=>?_
   have lu:=SH.Cv h6 CG
   rw [h8] at lu
   exact ⟨rfl,x',Dm.mono (kS h7),⟨Bp,lu⟩,hm⟩
  ·intro je a ha
   refine (first (fun l a' w'=>l=l0∧ ∃s',Fr n (E s') a'∧(φ s'∧SH U w0 w' (Hs s'))) ?_).go w hS a ha
   exact qdz
 ·cases h1
end
