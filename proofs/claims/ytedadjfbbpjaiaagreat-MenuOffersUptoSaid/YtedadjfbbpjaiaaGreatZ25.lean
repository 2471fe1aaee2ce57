import Derived.Test.YtedadjfbbpjaiaaGreatZ24
set_option linter.all false
set_option maxRecDepth 20000
noncomputable section
namespace Go.Proofs.Mo
open Go Go.Ev Go.X
variable{v:Value}{y z:AV}{P:Program}{E:Env}{w0:World}{I0:Cells}{a:Nat->Option Ob}{u:Nat->Bool}{M:Nat->Prop}{f:Hp->Option (Bool×Hp)}{b:Bool}
theorem Ah{β σ H:Type}(π:σ->H)(f:β->σ->Option (Bool×σ))(f0:β->H->Option (Bool×H))(hf:∀s x b h',f0 s (π x)=some (b,h')->∃x',f s x=some (b,x')/\π x'=h'):
  ∀(l out:List β)(x:σ)(r:List β×Bool)(h':H),B6 f0 l out (π x)=some (r,h')->∃x',B6 f l out x=some (r,x')/\π x'=h'
 |[],out,x,r,h',h=>by obtain⟨rfl,rfl⟩:=py (dc h);exact⟨x,rfl,rfl⟩|s::ss,out,x,r,h',h=>by
  obtain⟨⟨b,h1⟩,he,h2⟩:=Eu.1 h;obtain⟨x1,e1,rfl⟩:=hf s x b h1 he;have key:B6 f (s::ss) out x=(bif b then(bif Nat.beq out.length 64 then some ((out,true),x1)else B6 f ss (out++[s]) x1)else B6 f ss out x1):=by show(f s x).bind _=_;rw[e1];rfl
  rw[key];cases b with
  |false=>exact Ah π f f0 hf ss out x1 r h' h2|true=>
   cases hb:Nat.beq out.length 64 with
   |true=>simp only[hb,ba]at h2⊢;obtain⟨rfl,rfl⟩:=py (dc h2);exact⟨x1,rfl,rfl⟩|false=>simp only[hb,ba,bc]at h2⊢;exact Ah π f f0 hf ss _ x1 r h' h2
def Ma(N:Nat):(Option Nat)×cg×(List bE)->Hp->Option (((List nb)×Bool)×Hp):=λ(p,kd,ns) h=>(F59 N p h).bind λy=>(db (Nat.ble y.1.length 1048576)).bind λ_=>(B6 (λs h=>F60 N (p,s,kd.ab,ns) h) y.1 [] y.2).bind λr=>some ((r.1.1.map λs=>nb.mk s 0,r.1.2),r.2)
abbrev K29(N:Nat):ca U:=⟨[(.J9 58 (.pair (.cell (.ptr 0)) (.pair (.cell (.struct 13)) (.cell (.list .str)))))],[.own (.struct 32) 81,.v .bool],none,.st (Ma N)⟩
theorem P6{β:Type}(bs:β->ByteArray):∀(l:List β)(i:Nat)(s:β),l[i]?=some s->(flat bs l)[i*2+0]?=some (.string (bs s))/\(flat bs l)[i*2+1]?=some (.int .i64 0)
 |[],i,s,h=>by cases h
 |x::l,0,s,h=>by cases h;exact ⟨rfl,rfl⟩
 |x::l,i+1,s,h=>by have:=P6 bs l i s h;have e:flat bs (x::l)=Value.string (bs x)::.int .i64 0::flat bs l:=rfl;rw[e,show(i+1)*2+0=i*2+0+2 by omega,show(i+1)*2+1=i*2+1+2 by omega];exact this
abbrev Sg:={x:Hp×(Nat->Option Ob)×(Nat->Bool)//fa (U:=U) TT full x.1 x.2.1 x.2.2}
theorem RU(kd:cg):(enc TT (.struct 13) kd:AV).cells=[.fl (Ev.bs kd.role),.fl (Ev.bs kd.ab),.fl (.int .i64 kd.min),.fl (.int .i64 kd.max)]:=by show TT.cl 13 kd=_;rw[lh];rfl
theorem Ha(x:nb):(enc TT (.struct 32) x:AV).cells=[.fl (Ev.bs x.ab),.fl (.int .i64 x.target)]:=by show TT.cl 32 x=_;rw[lh];rfl
theorem RW(p:Option Nat)(k:Nat):(vX p k).cells=[vX p k]:=by cases p<;>rfl
theorem Ew{w:World}{I:Cells}{cs:List AV}(h:cj w I v (.ref cs)):∃p,v=.pointer (some p)/\∀(j:Nat)(c:AV),cs[j]?=some c->I (p.add j)/\∃u,w.cell? (p.add j)=some u/\cj w I u c:=by
 generalize hx:AV.ref cs=x at h;cases h with
 |ref p cs cv hc hI hr=>cases hx;exact ⟨p,rfl,λj c h=>⟨hI j c h,_,hc j c h,hr j c h⟩⟩
 |_=>cases hx
theorem vs3{w:World}{I:Cells}{vs:Array Value}{x:AV}(h:mm w I vs.toList [x,y,z]):∃a b c,vs=#[a,b,c]/\cj w I a x/\cj w I b y/\cj w I c z:=by
 obtain⟨hl,hr⟩:=h;have AO:vs.size=3:=by simpa using hl
 refine⟨vs[0],vs[1],vs[2],?_,?_,?_,?_⟩
 ·apply CL
  ·simp[AO]
  ·intro j h1 h2;match j,h1 with
   |0,_=>rfl|1,_=>rfl
   |2,_=>rfl|j+3,h1=>omega
 ·exact hr 0 _ _ (by simp[AO]) rfl
 ·exact hr 1 _ _ (by simp[AO]) rfl
 ·exact hr 2 _ _ (by simp[AO]) rfl
theorem Y9{w:World}{I:Cells}{f:FuncId}{x:AV}(h:cj w I v (.fn f [x,y,z])):∃a b c,v=.func (.func f) #[] #[a,b,c]/\cj w I a x/\cj w I b y/\cj w I c z:=by
 generalize hy:AV.fn f [x,y,z]=u at h;cases h with
 |fn g vs caps hl hr=>cases hy;obtain⟨a,b,c,rfl,h1,h2,h3⟩:=vs3 (w:=w) (I:=I) (vs:=vs) (x:=x) (y:=y) (z:=z) ⟨by simpa using hl,λj v a hv ha=>by have:=hr j a ha;simp only[iW]at hv;simpa[hv]using this⟩;exact⟨a,b,c,rfl,h1,h2,h3⟩
 |_=>cases hy
theorem tW.turns {w w':World} {I:Cells} (h:tW P E w0 I0 a u w I M) (t:dy M w w'):
  tW P E w0 I0 a u w' I (λb=>M b∨(w.heap.size<=b/\b<w'.heap.size))/\cH w w' I I:=
 ⟨h.step t.os t.tape t.out t.size t.oQ (λk _=>t.shape k),.world (λp v hp hv=>by rw[ct (t.oQ p.block (h.ar.since.lt p hp) (λhm=>(h.own _ hm).mem p hp rfl))];exact hv) t.shape⟩
theorem tW.post {w:World} {I:Cells} {a0:Nat->Option Ob} (h:tW P (E.cx a0 I0) w0 I0 a u w I M) {n size base:Nat} {e:TypeId} {flt:List Value} (vE:w.ownsRow base e size v n flt) (hm:∀k,some k=v.ownBlock->M k)
  {xs:List AV} (hn:xs.length=n) (dh:P.cellsOf e=size) (h0:0<size) (jk:gY P e xs) (Gy:∀(i j:Nat)(x c:AV),xs[i]?=some x->x.cells[j]?=some c->∃u,flt[i*size+j]?=some u/\cj w I u c) (b:Value) (hb:One b):
  Hu P (E.cx a0 I0) w0 I0 w a u (.ret [.own e xs,.v (.fl b)]) (.returned (.tuple #[v,b])):=by
 have qH:∀B,some B=v.ownBlock->afL (E.cx a0 I0) w0 w I a B:=λB hB=>h.own B (hm B hB);refine⟨_,I,λj=>if j=0 then v.ownBlock else none,rfl,h.ar.since,⟨_,rfl,rfl,λj r hj=>?_⟩,λj j' B h1 h2=>?_,λj B h1=>?_,h.ar.aO.obj,h.ar.aO.inj,λj B h1 h2=>?_,h.ar.aO.un,h.ar.aO.ro⟩
 ·match j,hj with
  |0,hj=>
   cases hj;simp only[bp];refine⟨by omega,?_,jk,?_⟩
   ·rcases vE.2 with⟨rfl,rfl⟩|⟨g,cap,cur,rfl,hbg,hg,hnc,E1,jl,VH⟩<;>omega
   ·rcases vE.2 with⟨rfl,rfl⟩|⟨g,cap,cur,rfl,hbg,hg,hnc,E1,jl,VH⟩
    ·exact ⟨xc hn,none,rfl⟩
    ·have s:=qH g rfl;show(E.cx a0 I0).fresh w0 g/\_;refine⟨s.fresh,s.lt,s.mem,s.bN,cur,cap,hg,by rw[jl,dh],E1,by omega,⟨_,by rw[hn];rfl,λ_=>rfl⟩,λi j x c hx hc=>?_⟩;obtain⟨u,hu,hr⟩:=Gy i j x c hx hc;have e1:cur.getD (i*P.cellsOf e+j) undef=u:=by rw[<-VH]at hu;rw[dh];have:=(aV.1 hu).1;rw[fZ,ap (by simp at this;omega)]at hu;simp only[jI,<-iW,hu,dB]
     rw[e1];exact hr
  |1,hj=>cases hj;exact .fl b hb
  |j+2,hj=>cases hj
 ·by_cases e1:j=0
  ·by_cases e2:j'=0
   ·omega
   ·simp[e2]at h2
  ·simp[e1]at h1
 ·by_cases e1:j=0
  ·simp only[e1,bp]at h1;exact (qH B h1.symm).fresh
  ·simp[e1]at h1
 ·obtain ⟨g1,g2,g3,g4,_⟩:=h.ar.aO.own j B h1 h2;refine⟨g1,g2,g3,g4,λ⟨i,hi⟩=>?_⟩;by_cases e1:i=0
  ·simp only[e1,bp]at hi;exact (qH B hi.symm).ob j h1 h2
  ·simp[e1]at hi
open Classical in
def LB(f:Hp->Option (Bool×Hp))(D:Sg->Bool->Sg->Prop)(x:Sg):Option (Bool×Sg):=
 match f x.1.1 with
 |none=>none|some (b,_)=>if h:∃y,D x b y then some (b,Classical.choose h)else none
theorem VO{D:Sg->Bool->Sg->Prop}{x:Sg}{h':Hp}(h:f x.1.1=some (b,h'))(hD:∃y,D x b y):∃y,LB f D x=some (b,y)/\D x b y:=by refine⟨Classical.choose hD,?_,Eb hD⟩;unfold LB;rw[h];simp only[fO hD]
theorem N7{D:Sg->Bool->Sg->Prop}{x y:Sg}(h:LB f D x=some (b,y)):D x b y:=by
 unfold LB at h;split at h
 ·cases h
 ·split at h
  ·rename_i b' h' e hD;obtain⟨rfl,rfl⟩:=py (dc h);exact Eb hD
  ·cases h
set_option maxHeartbeats 1000000 in
theorem G29(N:Nat):Holds 29 (K29 N):=λE hE=>jD (by kernel_rfl) (by
 have RJ:Enters PP 29:=Go.Proofs.enters_of (fn:=Tryz.f29) (by kernel_rfl) (by kernel_rfl) (c:=Tryz.f29.body.getD .skip) (by kernel_rfl);rintro⟨p,kd,ns⟩ h aX r h' A V dg hH hr;obtain⟨av,_,rfl,⟨_,rfl⟩,rfl⟩:=dg;obtain⟨⟨names,h1⟩,ale,HV⟩:=bind_some hr;obtain⟨_,u9,J5⟩:=bind_some HV;obtain⟨⟨res,h2⟩,P4,hr3⟩:=bind_some J5;obtain⟨e1,e2⟩:=py (dc hr3);subst e1 e2;have hlen:names.length<=1048576:=Nat.le_of_ble_eq_true (dx u9);obtain⟨A1,V1,hH1,hD1⟩:=(G59 N E hE).tG p h [_] names h1 A V ⟨_,_,rfl,⟨rfl,rfl⟩,rfl⟩ hH ale;let D:bE->Sg->Bool->Sg->Prop:=λs x b y=>F60 N (p,s,kd.ab,ns) x.1.1=some (b,y.1.1)/\nE PP E 60 [vX p 0,.fl (Ev.bs s),.fl (Ev.bs kd.ab),enc TT (.list .str) ns] x.1.2.1 x.1.2.2 (.ret [.v (.fl (.bool b))]) y.1.2.1 y.1.2.2;let fS:bE->Sg->Option (Bool×Sg):=λs=>LB (λh=>F60 N (p,s,kd.ab,ns) h) (D s);obtain⟨x2,alf,RX⟩:=Ah (λx:Sg=>x.1.1) fS (λs h=>F60 N (p,s,kd.ab,ns) h) (λs x b h' hf=>by obtain⟨A',V',hH',hD'⟩:=(G60 N E hE).tG (p,s,kd.ab,ns) x.1.1 [_,_,_,_] b h' x.1.2.1 x.1.2.2 ⟨_,_,rfl,⟨rfl,rfl⟩,_,_,rfl,⟨rfl,rfl⟩,_,_,rfl,⟨rfl,rfl⟩,_,_,rfl,⟨rfl,rfl⟩,rfl⟩ x.2 hf;obtain⟨y,hy,hDy⟩:=VO (D:=D s) hf ⟨⟨(h',A',V'),hH'⟩,hf,hD'⟩;refine⟨y,hy,?_⟩;have:=hDy.1.symm.trans hf;exact(py (dc this)).2) names [] ⟨(h1,A1,V1),hH1⟩ res h2 P4;subst RX;refine⟨x2.1.2.1,x2.1.2.2,x2.2,RJ,λw0 I0 vs hinv hI hA dH=>?_⟩;obtain⟨v,rfl,hv⟩:=vs1 dH;obtain⟨c1,c2,c3,rfl,sP,vD,Sf⟩:=Y9 hv;obtain⟨A1a,rfl,k1⟩:=Ew sP;obtain⟨A2a,rfl,k2⟩:=Ew vD;obtain⟨A3a,rfl,k3⟩:=Ew Sf;have k1':=k1 0 (vX p 0) (by show(vX p 0).cells[0]?=_;rw[RW];rfl);have k2':=k2 1 (.fl (Ev.bs kd.ab)) (dK (λl:List AV=>l[1]?) (RU (kd:cg)));have k3':=k3 0 (enc TT (.list .str) ns) rfl;obtain⟨i1,v1,l1,r1⟩:=k1';obtain⟨i2,v2,l2,r2⟩:=k2';obtain⟨i3,v3,l3,r3⟩:=k3';obtain rfl:=bR r2;have h0:=yv.start hinv hI hA;let T:Sg->(Nat->Prop)->World->Prop:=λx M W=>∃I,tW PP (E.cx A I0) w0 I0 x.1.2.1 x.1.2.2 W I M/\cH w0 W I0 I;refine(acA (λs:bE=>(⟨s.toArray⟩:ByteArray)) fS A1a A2a A3a v1 (Ev.bs kd.ab) v3 T names ⟨(h,A,V),hH⟩ ⟨(h1,A1,V1),hH1⟩ (res,x2) alf (dI hlen (by decide)) w0 ?_ ?_ ?_ ?_ ?_ ?_).mono ?_
 ·rintro x M W W' ⟨I,hM,hG⟩ ht;obtain⟨q1,q2⟩:=tW.turns hM ht;exact⟨I,q1,hG.trans q2⟩
 ·rintro x M M' W ⟨I,hM,hG⟩ hk;exact⟨I,hM.less hk,hG⟩
 ·rintro x M W ⟨I,hM,hG⟩;exact⟨hG.cell _ _ i1 l1,hG.cell _ _ i2 l2,hG.cell _ _ i3 l3⟩
 ·rintro M W ⟨I,hM,hG⟩;refine(hM.call (vs:=#[v1]) hD1 ⟨rfl,λj v c hv hc=>?_⟩).mono λen W' hw=>?_
  ·match j,hv,hc with
   |0,hv,hc=>simp at hv hc;subst hv hc;exact r1.mono hG
  ·obtain ⟨v,I',bo,rfl,g1,g2,g3,g4,g5,g6⟩:=hw;have g6:lM PP (E.cx A I) W' I' ((E.cx A I).fresh W) (bo 0) v (.own 9 (List.map (enc TT .str) names)):=g6;obtain⟨_,_,_,g7⟩:=g6;cases hb:bo 0 with
   |none=>
    rw[hb]at g7;obtain⟨e1,Aa,rfl⟩:=g7;have hn:names=[]:=by simpa using e1
    subst hn;exact⟨Aa,0,0,#[],rfl,λh=>by simp at h,λj s h=>by simp at h,⟨I',g1.less λk hk=>hk.elim id (λh=>by simp at h),hG.trans g2⟩,g3,g4⟩
   |some B=>
    rw[hb]at g7;obtain⟨_,g8,g9,g10,cur,cap,g11,g12,g13,g14,⟨Aa,rfl,hAa⟩,g15⟩:=g7;obtain⟨u1,u2,u3⟩:=g5 0 B hb;simp only[cM]at g14;refine⟨Aa,B,cap,cur,by rw[cM],λh=>⟨hAa (by omega),g11⟩,λj s hs=>?_,⟨I',⟨g1.ar,λk hk=>?_⟩,hG.trans g2⟩,g3,g4⟩
    ·have sk:PP.cellsOf 9=1:=by kernel_rfl
     have:=g15 j 0 (enc TT .str s) (.fl (Ev.bs s)) (by rw[dd,hs];rfl) rfl;have:=bR this;have hj:j<names.length:=(aV.1 hs).1;rw[sk]at this g12;simp only[yX,mL,jI]at this;rw[sW (by omega)]at this⊢;simpa using this
    ·rcases hk with hk|⟨_,rfl⟩
     ·exact g1.own k hk
     ·exact ⟨u2,g8,g9,g10,u3⟩
 ·rintro x s b y M W ⟨I,hM,hG⟩ hf;have hDD:=(N7 hf).2;refine(hM.call (vs:=#[v1,.string ⟨s.toArray⟩,Ev.bs kd.ab,v3]) hDD ⟨rfl,λj v c hv hc=>?_⟩).mono λen W' hw=>?_
  ·match j,hv,hc with
   |0,hv,hc=>simp at hv hc;subst hv hc;exact r1.mono hG|1,hv,hc=>simp at hv hc;subst hv hc;exact .fl _ rfl
   |2,hv,hc=>simp at hv hc;subst hv hc;exact .fl _ rfl|3,hv,hc=>simp at hv hc;subst hv hc;exact r3.mono hG
   |j+4,hv,hc=>simp at hv
  ·obtain ⟨v,I',bo,rfl,g1,g2,g3,g4,g5,g6⟩:=hw;have g6:cj W' I' v (.fl (.bool b)):=g6;obtain rfl:=bR g6;exact⟨rfl,⟨I',g1,hG.trans g2⟩,g3,g4⟩
 ·exact ⟨I0,⟨h0,λk hk=>hk.elim⟩,cH.refl _ _⟩
 ·rintro e W' ⟨v,M,rfl,⟨I,hM,hG⟩,vE,hm⟩;refine tW.post (xs:=List.map (enc TT (.struct 32)) (res.1.map λs=>nb.mk s 0)) hM vE hm (by simp) (by kernel_rfl) (by decide) (λx hx=>?_) (λi j x c hx hc=>?_) (.bool res.2) rfl
  ·obtain ⟨it,yS,rfl⟩:=cK.1 hx;obtain⟨s,hs,rfl⟩:=cK.1 yS;have e:=Ha (nb.mk s 0);refine⟨(dK List.length e).trans (show 2=PP.cellsOf 81 by kernel_rfl),λc hc=>?_⟩;have hc:c∈(enc TT (.struct 32) (nb.mk s 0):AV).cells:=hc;rw[e]at hc;simp only[c6,List.not_mem_nil,or_false]at hc;rcases hc with rfl|rfl<;>rfl
  ·rw[xq,dd]at hx;obtain⟨s,hs,rfl⟩:=ck.1 hx;have hc:(enc TT (.struct 32) (nb.mk s 0):AV).cells[j]?=some c:=hc;rw[Ha]at hc;obtain⟨f1,f2⟩:=P6 (λs:bE=>(⟨s.toArray⟩:ByteArray)) res.1 i s hs;match j,hc with
   |0,hc=>cases hc;exact ⟨_,f1,.fl _ rfl⟩
   |1,hc=>cases hc;exact ⟨_,f2,.fl _ rfl⟩
   |j+2,hc=>cases hc)
end Go.Proofs.Mo
namespace Go.Proofs.Mo
open Go Go.Ev Go.X
open Go.IntKind renaming i64->Wk
def F4(N:Nat):(List bT)×dX×Int->Option Bool:=λ(c,f,e)=>aM (λ((g,_):Int×Unit)=>bif 140<g then some true else bif 20<(c.length:Int)then some true else bif 80<(f.nodes.length:Int)then some true else bif 2000<e then some (decide (e<=1048576))else some false) λd=>aE (λi(((a,b),_):(Int×Int)×Unit)=>bif b<c.length then bif b<100 then bif a<=1000 then(aA c b).bind λj=>(aA c b).bind λk=>i ((Wk.wrap ((Wk.wrap ((Wk.wrap (a+1))+(j.aQ.length:Int)))+(k.rules.length:Int)),Wk.wrap (b+1)),())else d (a,())else d (a,())else d (a,())) N ((0,0),())
abbrev K4(N:Nat):ca U:=⟨[(.list (.struct 23)),(.struct 27),.I],[.v .bool],none,.pure (F4 N)⟩
theorem G4(N:Nat):Holds 4 (K4 N):=gP N Tryz.f4 (.q (.q (.seq (some ⟨false,[0,2,4],[(7,.val .I)],[4],[]⟩) (.q (.block (.loop ⟨false,[0,2,4],[(7,.val .I),(8,.val .I)],[4],[]⟩ .leaf))) .leaf))) nl
def F5(N:Nat):List bT->Hp->Option (((Option Nat)×(List bT))×Hp):=λc h=>(F14 N c h).bind λa=>bif !(a.1.2.err==0)then some ((none,[]),a.2)else(F15 N c).bind λb=>bif !((b.Z3==0)&&((b.Z4==0)&&((b.part==0)&&((b.err==0)&&true))))then some ((none,[]),a.2)else some ((a.1.1,c),a.2)
abbrev K5(N:Nat):ca U:=⟨[(.list (.struct 23))],[.v (.ptr 0),.v (.list (.struct 23))],none,.st (F5 N)⟩
theorem G5(N:Nat):Holds 5 (K5 N):=gS N Tryz.f5 .leaf (cn (G14 N) (cn (G15 N) nl))
def F26(N:Nat):(Option Nat)×dX×Int×bE->Hp->Option ((cg×Bool)×Hp):=λ(f,g,c,d) h=>bif c==0 then some ((cg.mk [] [] 0 0,d==[]),h)else(F25 N (g,c)).bind λi=>(F55 N (f,i.1.ab) h).bind λa=>aM (λ(_:Unit×Unit)=>some ((cg.mk [] [] 0 0,false),a.2)) λj=>aE (λk((b,_):Int×Unit)=>bif b<a.1.1.kids.length then(aA a.1.1.kids b).bind λe=>bif e.role==d then some ((e,true),a.2)else k (Wk.wrap (b+1),())else j ((),())) N (0,())
abbrev K26(N:Nat):ca U:=⟨[(.ptr 0),(.struct 27),.I,.str],[.v (.struct 13),.v .bool],none,.st (F26 N)⟩
theorem G26(N:Nat):Holds 26 (K26 N):=gS N Tryz.f26 (.q (.q (.q (.q (.seq (some ⟨false,[8],[],[8],[]⟩) (.q (.block (.loop ⟨false,[3,8,35,36],[(37,.val .I)],[8],[]⟩ .leaf))) .leaf))))) (cn (G25 N) (cn (G55 N) nl))
def F56(N:Nat):dX×Int->Option Int:=λ(a,d)=>aM (λ((e,_):Int×Unit)=>some e) λf=>aE (λg(((b,c),_):(Int×Int)×Unit)=>bif !(b==0)then(L9 N (a,b)).bind λi=>(aA a.nodes i).bind λj=>g ((j.parent,Wk.wrap (c+1)),())else f (c,())) N ((d,0),())
abbrev K56(N:Nat):ca U:=⟨[(.struct 27),.I],[.v .I],none,.pure (F56 N)⟩
theorem G56(N:Nat):Holds 56 (K56 N):=gP N Tryz.f56 (.q (.q (.seq (some ⟨false,[],[(5,.val .I)],[],[]⟩) (.block (.loop ⟨false,[2],[(1,.val .I),(5,.val .I)],[2],[]⟩ .leaf)) .leaf))) (cn (G53 N) nl)
def F27(N:Nat):dX×Int->Option Int:=λ(a,b)=>(F24 N a).bind λc=>bif !(c==0)then some 0 else(L9 N (a,b)).bind λd=>bif d<0 then some 0 else(F56 N (a,b)).bind λe=>some e
abbrev K27(N:Nat):ca U:=⟨[(.struct 27),.I],[.v .I],none,.pure (F27 N)⟩
theorem G27(N:Nat):Holds 27 (K27 N):=gP N Tryz.f27 .leaf (cn (G24 N) (cn (G53 N) (cn (G56 N) nl)))
def F57(N:Nat):dX×Int×bE->Option (List Int):=λ(b,g,i)=>aM (λ((j,_):(List Int)×Unit)=>some j) λk=>(aA b.nodes g).bind λe=>aE (λl(((a,c),_):((List Int)×Int)×Unit)=>bif c<e.kids.length then aM (λ((m,_):(List Int)×Unit)=>l ((m,Wk.wrap (c+1)),())) λf=>(aA e.kids c).bind λd=>(L9 N (b,d)).bind λn=>(aA b.nodes n).bind λo=>bif o.role==i then(db (fits 8 (a.length+[d].length) 140737488355328)).bind λ_=>f ((a++[d]),())else f (a,())else k (a,())) N (([],0),())
abbrev K57(N:Nat):ca U:=⟨[(.struct 27),.I,.str],[.own .I 3],none,.pure (F57 N)⟩
theorem G57(N:Nat):Holds 57 (K57 N):=gP N Tryz.f57 (.q (.q (.seq (some ⟨false,[],[(7,.own 7 .I 3)],[],[]⟩) (.q (.block (.loop ⟨false,[2,3,15,16],[(7,.own 7 .I 3),(17,.val .I)],[3],[]⟩ (.q (.q (.seq (some ⟨false,[2,3,15,16,17],[(7,.own 7 .I 3)],[3],[]⟩) .leaf .leaf)))))) .leaf))) (cn (G53 N) nl)
def F28(N:Nat):dX×Int×bE->Option (List Int):=λ(a,b,c)=>(F24 N a).bind λd=>bif !(d==0)then some []else(L9 N (a,b)).bind λe=>bif e<0 then some []else(L9 N (a,b)).bind λf=>(F57 N (a,f,c)).bind λg=>some g
abbrev K28(N:Nat):ca U:=⟨[(.struct 27),.I,.str],[.own .I 3],none,.pure (F28 N)⟩
theorem G28(N:Nat):Holds 28 (K28 N):=gP N Tryz.f28 .leaf (cn (G24 N) (cn (G53 N) (cn (G57 N) nl)))
def N8(N:Nat):(Option Nat)×cg×(List bE)->Option ((Option Nat)×cg×(List bE)):=λ(a,b,c)=>some (a,b,c)
abbrev K30(N:Nat):ca U:=⟨[(.ptr 0),(.struct 13),(.list .str)],[.v (.J9 58 (.pair (.cell (.ptr 0)) (.pair (.cell (.struct 13)) (.cell (.list .str)))))],none,.pure (N8 N)⟩
theorem G30(N:Nat):Holds 30 (K30 N):=gP N Tryz.f30 .leaf nl
def F9(N:Nat):(Option Nat)×dX×Int×bE->Hp->Option (((List nb)×Bool×Int)×Hp):=λ(e,a,d,f) h=>(F24 N a).bind λn=>bif !(n==0)then some (([],false,29),h)else(F25 N (a,d)).bind λo=>bif !(d==0)then bif !o.2 then some (([],false,20),h)else(F26 N (e,a,d,f) h).bind λb=>bif !b.1.2 then some (([],false,62),b.2)else bif !(d==0)then(F27 N (a,d)).bind λp=>bif p==64 then some (([],false,0),b.2)else bif b.1.1.max==1 then(F28 N (a,d,f)).bind λr=>bif 0<(r.length:Int)then some (([],false,0),b.2)else bif (a.nodes.length:Int)==4096 then some (([],false,0),b.2)else bif 1048576<a.next then some (([],false,0),b.2)else(N8 N (e,b.1.1,[])).bind λs=>(Ma N s b.2).bind λg=>some ((g.1.1,g.1.2,0),g.2)else bif (a.nodes.length:Int)==4096 then some (([],false,0),b.2)else bif 1048576<a.next then some (([],false,0),b.2)else(N8 N (e,b.1.1,[])).bind λt=>(Ma N t b.2).bind λi=>some ((i.1.1,i.1.2,0),i.2)else bif (a.nodes.length:Int)==4096 then some (([],false,0),b.2)else bif 1048576<a.next then some (([],false,0),b.2)else(N8 N (e,b.1.1,[])).bind λu=>(Ma N u b.2).bind λj=>some ((j.1.1,j.1.2,0),j.2)else(F26 N (e,a,d,f) h).bind λc=>bif !c.1.2 then some (([],false,62),c.2)else bif !(d==0)then(F27 N (a,d)).bind λv=>bif v==64 then some (([],false,0),c.2)else bif c.1.1.max==1 then(F28 N (a,d,f)).bind λy=>bif 0<(y.length:Int)then some (([],false,0),c.2)else bif (a.nodes.length:Int)==4096 then some (([],false,0),c.2)else bif 1048576<a.next then some (([],false,0),c.2)else(N8 N (e,c.1.1,[])).bind λz=>(Ma N z c.2).bind λk=>some ((k.1.1,k.1.2,0),k.2)else bif (a.nodes.length:Int)==4096 then some (([],false,0),c.2)else bif 1048576<a.next then some (([],false,0),c.2)else(N8 N (e,c.1.1,[])).bind λb0=>(Ma N b0 c.2).bind λl=>some ((l.1.1,l.1.2,0),l.2)else bif (a.nodes.length:Int)==4096 then some (([],false,0),c.2)else bif 1048576<a.next then some (([],false,0),c.2)else(N8 N (e,c.1.1,[])).bind λc0=>(Ma N c0 c.2).bind λm=>some ((m.1.1,m.1.2,0),m.2)
abbrev K9(N:Nat):ca U:=⟨[(.ptr 0),(.struct 27),.I,.str],[.own (.struct 32) 81,.v .bool,.v .I],none,.st (F9 N)⟩
theorem G9(N:Nat):Holds 9 (K9 N):=gS N Tryz.f9 .leaf (cn (G24 N) (cn (G25 N) (cn (G26 N) (cn (G27 N) (cn (G28 N) (cn (G29 N) (cn (G30 N) nl)))))))
def F10(N:Nat):(Option Nat)×dX×Int->Hp->Option (((List nb)×Bool×Int)×Hp):=λ(c,d,i) h=>(F24 N d).bind λj=>bif !(j==0)then some (([],false,29),h)else(F25 N (d,i)).bind λb=>bif !b.2 then some (([],false,20),h)else(F26 N (c,d,b.1.parent,b.1.role) h).bind λa=>bif !a.1.2 then some (([],false,62),a.2)else bif !(b.1.parent==0)then bif a.1.1.max==1 then(F28 N (d,b.1.parent,b.1.role)).bind λk=>bif 1<(k.length:Int)then some (([],false,0),a.2)else(N8 N (c,a.1.1,[b.1.ab])).bind λl=>(Ma N l a.2).bind λe=>some ((e.1.1,e.1.2,0),e.2)else(N8 N (c,a.1.1,[b.1.ab])).bind λm=>(Ma N m a.2).bind λf=>some ((f.1.1,f.1.2,0),f.2)else(N8 N (c,a.1.1,[b.1.ab])).bind λn=>(Ma N n a.2).bind λg=>some ((g.1.1,g.1.2,0),g.2)
abbrev K10(N:Nat):ca U:=⟨[(.ptr 0),(.struct 27),.I],[.own (.struct 32) 81,.v .bool,.v .I],none,.st (F10 N)⟩
theorem G10(N:Nat):Holds 10 (K10 N):=gS N Tryz.f10 .leaf (cn (G24 N) (cn (G25 N) (cn (G26 N) (cn (G28 N) (cn (G29 N) (cn (G30 N) nl))))))
def RY(N:Nat):Option (Nat×Nat)->Hp->Option (Unit×Hp):=λd h=>
 aE (λf((a,b):Int×Hp)=>
  bif a<(ZL d:Int)then
   d.bind λc=>
   (db (decide (0<=a)&&decide (a<(c.2:Int)))).bind λ_=>
   (fk b.ja c.1).bind λe=>
   (e[a.toNat]?).bind λi=>
   cP {b with ja:=b.ja.set c.1 (some (e.set a.toNat (nb.mk [115,112,111,105,108,116] (-9))))} λg=>
   f (Wk.wrap (a+1),g)
  else some ((),b)) N (0,h)
abbrev K13(N:Nat):ca U:=⟨[(.hs 10)],[],none,.st (RY N)⟩
theorem G13(N:Nat):Holds 13 (K13 N):=gS N Tryz.f13 (.q (.block (.loop ⟨true,[0],[(2,.val .I)],[],[]⟩ .leaf))) nl
def F3(N:Nat):(List bT)×dX×Int×bE×Int->Hp->Option (Bool×Hp):=λ(n,d,o,p,r) h=>
 (F4 N (n,d,0)).bind λt=>
 bif t then some (true,h)
 else
  (F5 N n h).bind λe=>
  (F6 N d).bind λi=>
  (F7 N (e.1.2,d,o,p)).bind λj=>
  (F8 N (e.1.2,d,r)).bind λk=>
  aM (λ((_,u):Unit×Hp)=>some (true,u)) λv=>
  aE (λg((f,s):Int×Hp)=>
   bif f<2 then
    (F9 N (e.1.1,i,o,p) s).bind λc=>
    (F10 N (e.1.1,i,r) c.2).bind λa=>
    (F11 N (c.1.1,j.1)).bind λy=>
    bif !y then some (false,a.2)
    else
     bif !(c.1.2.1==j.2.1)then some (false,a.2)
     else
      bif !(c.1.2.2==j.2.2)then some (false,a.2)
      else
       (F11 N (a.1.1,k.1)).bind λz=>
       bif !z then some (false,a.2)
       else
        bif !(a.1.2.1==k.2.1)then some (false,a.2)
        else
         bif !(a.1.2.2==k.2.2)then some (false,a.2)
         else
          (F12 N (i,d)).bind λb0=>
          bif !b0 then some (false,a.2)
          else
           bif c.1.1.isEmpty then
            (RY N (some (a.2.ja.length,0)) a.2).bind λb=>
            bif a.1.1.isEmpty then
             (RY N (some (b.2.ja.length,0)) b.2).bind λl=>
             g (Wk.wrap (f+1),l.2)
            else
            (db (!a.1.1.isEmpty)).bind λ_=>
            cP {b.2 with ja:=b.2.ja++[some a.1.1]} λc0=>
            (RY N (some (b.2.ja.length,a.1.1.length)) c0).bind λl=>
            g (Wk.wrap (f+1),l.2)
           else
           (db (!c.1.1.isEmpty)).bind λ_=>
           cP {a.2 with ja:=a.2.ja++[some c.1.1]} λd0=>
           (RY N (some (a.2.ja.length,c.1.1.length)) d0).bind λb=>
           bif a.1.1.isEmpty then
            (RY N (some (b.2.ja.length,0)) b.2).bind λm=>
            g (Wk.wrap (f+1),m.2)
           else
           (db (!a.1.1.isEmpty)).bind λ_=>
           cP {b.2 with ja:=b.2.ja++[some a.1.1]} λg0=>
           (RY N (some (b.2.ja.length,a.1.1.length)) g0).bind λm=>
           g (Wk.wrap (f+1),m.2)
   else v ((),s)) N (0,e.2)
abbrev K3(N:Nat):ca U:=⟨[(.list (.struct 23)),(.struct 27),.I,.str,.I],[.v .bool],none,.st (F3 N)⟩
theorem G3(N:Nat):Holds 3 (K3 N):=gS N Tryz.f3 (.q (.q (.q (.q (.q (.q (.seq (some ⟨true,[],[],[],[]⟩) (.q (.block (.loop ⟨true,[2,3,4,6,11,13,14,15,16,17,18,19],[(20,.val .I)],[6,13],[]⟩ .leaf))) .leaf))))))) (cn (G4 N) (cn (G5 N) (cn (G6 N) (cn (G7 N) (cn (G8 N) (cn (G9 N) (cn (G10 N) (cn (G11 N) (cn (G12 N) (cn (G13 N) nl))))))))))
end Go.Proofs.Mo
