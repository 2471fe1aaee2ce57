import Derived.Test.YticakdhfjeljkaaGreatDoorZ16
set_option linter.all false
set_option maxRecDepth 20000
open Option renaming some->O,none->Y
open Bool renaming true->W,false->F
open Go.Proofs.Tryz
noncomputable section
namespace Go.Proofs.Mo
open Go Go.Ev Go.X
variable{i:Nat}{vs:Array ag}{A:Nat->V Ob}{Vloc:Nat->aa}{e:AM}
section
theorem vs1{w:af}{I:aA}{x:AV}(h:lN w I vs.toList [x]):∃v,vs=#[v]/\cy w I v x:=by
 obtain⟨b,a⟩:=h;have c:vs.size=1:=by grind
 refine⟨vs[0],?_,?_⟩
 grind
 .exact a 0 _ _ (by grind) rfl
theorem vs2{w:af}{I:aA}{x y:AV}(h:lN w I vs.toList [x,y]):∃v a,vs=#[v,a]/\cy w I v x/\cy w I a y:=by
 obtain⟨c,b⟩:=h;have d:vs.size=2:=by grind
 refine⟨vs[0],vs[1],?_,?_,?_⟩
 grind
 .exact b 0 _ _ (by grind) rfl
 .exact b 1 _ _ (by grind) rfl
theorem mj{w:af}{I:aA}{v:ag}{off:Nat}(h:cy w I v (.ptr i off)):∃B,v=.pointer (O ⟨B,off,Y⟩)/\I.ar i=O B:=by
 generalize a:AV.ptr i off=x at h;cases h with
 |ptr i off B b=>grind|_=>cases a
theorem Wt{w:af}{I:aA}{v:ag}{f:bH}{x:AV}(h:cy w I v (.fn f [x])):∃c,v=.func (.func f) #[] #[c]/\cy w I c x:=by
 generalize b:AV.fn f [x]=y at h;cases h with
 |fn g vs caps i d=>
  cases b;obtain⟨c,rfl,k⟩:=vs1 (w:=w) (I:=I) (vs:=vs) (x:=x) ⟨by grind,λj v a hv e=>by have:=d j a e;simp_all⟩
  grind
 |_=>cases b
def qW(e:AM):Z AV:=[Co e.pH abI,hD TT e.rm Kw,.fl (.int .u32 e.ready.done.v),.fl (.int .i32 e.ready.m.mu.w5),.fl (.int .u32 e.ready.m.mu.abD),hD TT e.bits abH,.fl (.int .i64 e.ny.v)]
def TG(p:V Nat)(k:Nat):(Co p k).cells=[Co p k]:=by cases p<;>rfl
def TH(p:V (Nat×Nat))(k:Nat):(hD TT p k).cells=[hD TT p k]:=by cases p<;>rfl
def TI(v:ag):(AV.fl v).cells=[.fl v]:=rfl
def M0(cs:Z AV):(AV.agg cs).cells=cs:=rfl
def TJ(n:Nat)(x:CC n):TT.cl n x=jZ TT (UF n) (UU n x):=SS.L.cells n x
def KA(e:AM):(enc TT MX e).cells=qW e:=by show TT.cl abG e=_;rw[TJ];simp only[UF,UU,jZ,xp,xK,enc,TG,TH,TI,M0,TJ,ES,pw,EU];rfl
def TK(e:AM)(n:Int):AM:={e with ny:={e.ny with v:=n}}
def kA(e:AM)(n:Int):AM:={e with ready:={e.ready with m:={e.ready.m with mu:={e.ready.m.mu with w5:=n}}}}
def uZ(e:AM)(n:Int):AM:={e with ready:={e.ready with done:={e.ready.done with v:=n}}}
def M1{h:Hp}(a:fB (U:=U) TT bF h A Vloc)(b:h.fP[i]?=O e):A (dY qg i)=O (.cells (qW e)):=by rw[<-KA];exact a.abC (k:=qg) b9 (t:=MX) (l:=h.fP) rfl b
def Ij{h:Hp}(a:fB (U:=U) TT bF h A Vloc){e':AM}(b:h.fP[i]?=O e):fB (U:=U) TT bF ({h with fP:=h.fP.set i e'}:Hp) (b8 A (dY qg i) (O (.cells (qW e')))) Vloc:=by rw[<-KA];exact a.ZR SS.L (k:=qg) b9 (t:=MX) (l:=h.fP) rfl b (y:=e') rfl
variable(N:Nat)
def Wu(N:Nat):Nat×Int->Hp->V (Int×Hp):=λ(i,d) h=>(h.fP[i]?).bind λe=>O (IntKind.i64.wrap (e.ny.v+d),{h with fP:=h.fP.set i (TK e (IntKind.i64.wrap (e.ny.v+d)))})
abbrev aeK:bZ U:=⟨[.An qg 6,.int .i64],[.v aI],Y,.st (Wu N)⟩
theorem aeL:Holds 202 (aeK N):=λE H=>gI ap (by have l:Enters PP 202:=Go.Proofs.enters_of (fn:=f202) (by simp_all) ap (c:=f202.body.getD .skip) ap;rintro⟨i,(d:Int)⟩ h I r J A Vloc m b n;obtain⟨a,_,rfl,⟨_,rfl⟩,K,_,rfl,⟨_,rfl⟩,rfl⟩:=m;obtain⟨e,f,o⟩:=bind_some n;obtain⟨p,q⟩:=pz (cJ o);subst p q;refine⟨_,Vloc,Ij b f,l,λw0 I0 vs s t u w=>?_⟩;obtain⟨L,P,rfl,x,y⟩:=vs2 w;obtain⟨B,rfl,g⟩:=mj x;obtain rfl:=bV y;have h0:=yA.start s t u;have j:=M1 b f;obtain⟨z,C⟩:=h0.yB (k:=6) j g (v:=.int .i64 e.ny.v) rfl;refine(ZY ⟨B,6,Y⟩ e.ny.v d _ rfl w0 z C).mono λQ R D=>?_;obtain⟨rfl,rfl⟩:=D;have G:=h0.OY (λ_=>rfl) (k:=6) j g (xy 6) (.int .i64 (IntKind.i64.wrap (e.ny.v+d))) rfl;exact yA.post G (rs:=[.v (.fl (.int .i64 (IntKind.i64.wrap (e.ny.v+d))))]) (.fl _ rfl))
def Wv:Nat×V Nat->Hp->V (ab×Hp):=λ(i,p) h=>(h.fP[i]?).bind λe=>bif !(e.ready.done.v==0)then O ((),h)else
 (dv (e.ready.m.mu.w5==0)).bind λ_=>(Qs N p {h with fP:=h.fP.set i (kA e 1)}).bind λy=>
 (y.2.fP[i]?).bind λa=>(dv (a.ready.done.v==0&&a.ready.m.mu.w5==1)).bind λ_=>O ((),{y.2 with fP:=y.2.fP.set i (kA (uZ a 1) 0)})
abbrev aeM:bZ U:=⟨[.An qg 2,.NY 204 (.cell (.ptr qg))],[],Y,.st (Wv N)⟩
theorem aeN:Holds 203 (aeM N):=λE d0=>gI ap (by
 have I:Enters PP 203:=Go.Proofs.enters_of (fn:=f203) (by simp_all) ap (c:=f203.body.getD .skip) ap;rintro⟨i,p⟩ h E0 r G0 A Vloc e0 s f0;obtain⟨a,_,rfl,⟨_,rfl⟩,H0,_,rfl,⟨_,rfl⟩,rfl⟩:=e0;obtain⟨e,J,o⟩:=bind_some f0;have m:=M1 s J;cases K:(!(e.ready.done.v==0))with
 |true=>rw[K]at o;obtain⟨t,d⟩:=pz (cJ o);subst t d;refine⟨A,Vloc,s,I,λw0 I0 vs w x y z=>?_⟩;obtain⟨g0,L,rfl,C,P⟩:=vs2 z;obtain⟨B,rfl,f⟩:=mj C;have h0:=yA.start w x y;obtain⟨b,Q⟩:=h0.yB (k:=2) m f (v:=.int .u32 e.ready.done.v) rfl;refine(Ws ⟨B,2,Y⟩ _ (by grind) L w0 b).mono λR S n=>?_;obtain⟨rfl,rfl⟩:=n;exact yA.post h0 (rs:=[]) ⟨#[],rfl,rfl,λj r q=>(by grind)⟩|false=>
  rw[K]at o;obtain⟨_,i0,j0⟩:=bind_some o;obtain⟨⟨u,k0⟩,l0,m0⟩:=bind_some j0;obtain⟨d,T,n0⟩:=bind_some m0;obtain⟨_,D,o0⟩:=bind_some n0;obtain⟨t,p0⟩:=pz (cJ o0);subst t p0;have q0:e.ready.m.mu.w5=0:=by simpa using dy i0
  have r0:e.ready.done.v=0:=by grind
  have D:=dy D;simp only[aP,gE]at D;have s0:=Ij (e':=kA e 1) s J;obtain⟨G,U,X,t0⟩:=(aeJ N E d0).tr p _ [_] u k0 _ Vloc ⟨_,_,rfl,⟨rfl,rfl⟩,rfl⟩ s0 l0;have H:=M1 X T;refine⟨_,U,Ij X T,I,λw0 I0 vs w x y z=>?_⟩;obtain⟨g0,L,rfl,C,P⟩:=vs2 z;obtain⟨B,rfl,f⟩:=mj C;obtain⟨a0,rfl,u0⟩:=Wt P;have h0:=yA.start w x y;obtain⟨b,Q⟩:=h0.yB (k:=2) m f (v:=.int .u32 e.ready.done.v) rfl;obtain⟨b0,x0⟩:=h0.yB (k:=3) m f (v:=.int .i32 e.ready.m.mu.w5) rfl;rw[r0]at b;rw[q0]at b0;have y0:=h0.OY (λ_=>rfl) (k:=3) m f (by show 3<7;decide) (.int .i32 1) rfl;have A0:dK w0 (w0.setCell ⟨B,3,Y⟩ (.int .i32 1)) I0 I0:=h0.Wh m f 3 _;refine(abN B 2 a0 w0 (λw'=>∃I',yA PP (E.bX A I0) w0 I0 G U w' I'/\I'.ar (dY qg i)=O B) b b0 Q x0 ?_ ?_).mono λR S n=>?_
  .refine (y0.call (vs:=#[a0]) t0 ⟨rfl,λj v c hv b=>?_⟩).mono λR S n=>?_
   .match j,hv,b with
    |0,hv,b=>simp at hv b;subst hv b;exact u0.mono A0
   .obtain ⟨v,I',bo,rfl,l,g,B0⟩:=n;obtain⟨vs,rfl,C0,_⟩:=B0;exact⟨by rw[Y9 C0],I',l,g.ar _ _ f⟩
  .rintro w' ⟨I',l,g⟩;have q1:=l.yB (k:=2) H g (v:=.int .u32 d.ready.done.v) rfl;have J0:=l.yB (k:=3) H g (v:=.int .i32 d.ready.m.mu.w5) rfl
   grind
  .obtain ⟨rfl,K0,⟨I',l,g⟩,rfl⟩:=n;have D0:=l.drew.OY (λ_=>rfl) (k:=2) H g (by show 2<7;decide) (.int .u32 1) rfl;have c0:=D0.OY (λ_=>rfl) (k:=3) (cs:=(qW d).set 2 (.fl (.int .u32 1))) aH g (by show 3<7;decide) (.int .i32 0) rfl;have:b8 (b8 G (dY qg i) (O (.cells ((qW d).set 2 (.fl (.int .u32 1)))))) (dY qg i) (O (.cells (((qW d).set 2 (.fl (.int .u32 1))).set 3 (.fl (.int .i32 0)))))=b8 G (dY qg i) (O (.cells (qW (kA (uZ d 1) 0)))):=by
    funext j;by_cases q:j=dY qg i
    .subst q;simp only[ch];rfl
    .simp only[aO _ _ q]
   rw[this]at c0;exact yA.post c0 (rs:=[]) ⟨#[],rfl,rfl,λj r q=>(by grind)⟩)
end
end Go.Proofs.Mo
namespace Go.Proofs.Mo
open Go Go.Ev Go.X
open Go.IntKind renaming i64->Wk
section
variable(N:Nat)
def Ys(N:Nat):V Nat->Hp->V ((Except cV ab)×Hp):=λb h=>
 b.bind λd=>
 (h.sY[d]?).bind λe=>
 b.bind λf=>
 (h.sY[f]?).bind λg=>
 bif e.Kv==g.bj then O (Except.error (cV.mk 100),h)
 else
  b.bind λi=>
  (h.sY[i]?).bind λj=>
  b.bind λc=>
  (h.sY[c]?).bind λa=>
  cw {h with sY:=h.sY.set c (Vv.mk a.t a.m (oF.mk a.e.aj) a.pH a.self a.bj (Wk.wrap (j.Kv+1)))} λk=>
  O (Except.ok (),k)
abbrev K46:bZ U:=⟨[iX],[],(O (74,dM)),.st (Ys N)⟩
def G46:Holds 46 (K46 N):=gS N f46 .leaf nl
def sZ(N:Nat):aa->V dw:=λa=>O (dw.mk 3 0 [] a 0 [])
abbrev K53:bZ U:=⟨[.bool],[.v bg],Y,.pure (sZ N)⟩
def r3:Holds 53 (K53 N):=gP N f53 .leaf nl
def Au(N:Nat):Int->V dw:=λa=>O (dw.mk 1 a [] F 0 [])
abbrev agi:bZ U:=⟨[.I],[.v bg],Y,.pure (Au N)⟩
def WZ:Holds 119 (agi N):=gP N f119 .leaf nl
def KD(N:Nat):bP->V dw:=λa=>O (dw.mk 2 0 a F 0 [])
abbrev agj:bZ U:=⟨[.str],[.v bg],Y,.pure (KD N)⟩
def W0:Holds 120 (agj N):=gP N f120 .leaf nl
def Im(N:Nat):Int->V dw:=λa=>O (dw.mk 4 0 [] F a [])
abbrev agk:bZ U:=⟨[.I],[.v bg],Y,.pure (Im N)⟩
def aak:Holds 121 (agk N):=gP N f121 .leaf nl
def kb(N:Nat):aa×Int->V (Except cV ab):=λ(a,b)=>bif !a then O (Except.error (cV.mk b))else O (Except.ok ())
abbrev agl:bZ U:=⟨[.bool,.I],[],(O (74,dM)),.pure (kb N)⟩
def Io:Holds 122 (agl N):=gP N f122 .leaf nl
def F47:(V Nat)×cY×aju->Hp->V ((Except cV dw)×Hp):=λ(d,a,e) h=>bif a.kind==1 then(Au N a.int).bind λf=>O (Except.ok f,h)else bif a.kind==2 then(KD N a.text).bind λg=>O (Except.ok g,h)else aG (λ((i,_):aa×ab)=>bif i then(sZ N (a.kind==3)).bind λj=>O (Except.ok j,h)else bif a.kind==5 then d.bind λk=>(h.sY[k]?).bind λl=>(Im N l.self).bind λm=>O (Except.ok m,h)else bif a.kind==6 then(Im N 0).bind λn=>O (Except.ok n,h)else(e a.text h).bind λb=>(kb N (b.1.2,91)).bind λo=>eG o (λp=>O (Except.error p,b.2)) λr=>(Im N b.1.1).bind λq=>O (Except.ok q,b.2)) λc=>bif a.kind==3 then c (W,())else c ((a.kind==4),())
abbrev K47:bZ U:=⟨[iX,cU,(.lP .str fi)],[.v bg],(O (74,dM)),.st (F47 N)⟩
def G47:Holds 47 (K47 N):=gS N f47 (.q (.seq Y (.q (.block (.q (.cond .leaf (.q (.cond .leaf (.seq (O ⟨F,[0,2,4,6,10],[(21,.val .bool)],[4,6],[]⟩) .leaf .leaf))))))) .leaf)) (cn (r3 N) (cn (WZ N) (cn (W0 N) (cn (aak N) (cn (Io N) nl)))))
abbrev Ip(rec:ajt):bZ U:=⟨[iX,.I,(.lP .str fi)],[.v bg],(O (74,dM)),.st rec⟩
def M5(N:Nat)(rec:ajt):(V Nat)×Int×aju->Hp->V ((Except cV Nd)×Hp):=λ(c,e,f) h=>(rec (c,e,f) h).bind λa=>eG a.1 (λg=>O (Except.error g,a.2)) λb=>(kb N (b.kind==4,90)).bind λi=>eG i (λj=>O (Except.error j,a.2)) λo=>c.bind λk=>(a.2.sY[k]?).bind λl=>(dX a.2.vy l.pH).bind λd=>(kb N ((bp dp d b.node).isSome,102)).bind λm=>eG m (λn=>O (Except.error n,a.2)) λp=>O (Except.ok ((bp dp d b.node).getD (Nd.mk 0 [] 0 [] [] [] [])),a.2)
abbrev ab8(N:Nat)(rec:ajt):bZ U:=⟨[iX,.I,(.lP .str fi)],[.v cK],(O (74,dM)),.st (M5 N rec)⟩
def ab9(N:Nat)(rec:ajt)(E:cd)(a:oN E)(b:eb PP E TT (BB.lA 0 []) 20 (Ip rec)):eb PP E TT (BB.lA 0 []) 123 (ab8 N rec):=mJ SS a.ro f123 (ab8 N rec) N [] .leaf (.cons b (.cons (Io N E a) .nil)) (M5 N rec) ap ap ap λ_ _=>ap
def M6:(V Nat)×bP×bP->Hp->V (aa×Hp):=λ(b,d,c) h=>bif b.isNone then O ((d==c),h)else b.bind λi1=>(h.fP[i1]?).bind λm=>bif m.pH.isNone then O ((d==c),h)else b.bind λn=>(Wu N (n,1) h).bind λo=>b.bind λp=>(Wv N (p,b) o.2).bind λa=>b.bind λq=>(a.2.fP[q]?).bind λr=>(dX a.2.jU r.pH).bind λi=>b.bind λs=>(a.2.fP[s]?).bind λt=>(dX a.2.jU t.pH).bind λe=>bif ((bp dz i d).getD Y).isNone then O ((d==c),a.2)else bif ((bp dz e c).getD Y).isNone then O ((d==c),a.2)else b.bind λu=>(a.2.fP[u]?).bind λv=>((bp dz i d).getD Y).bind λw=>(a.2.eY[w]?).bind λf=>((bp dz e c).getD Y).bind λx=>(a.2.eY[x]?).bind λj=>(dv (decide (64≠0))).bind λ_=>v.bits.bind λg=>(dv (decide (0<=f.number)&&decide (f.number<(g.2:Int)))).bind λ_=>bif dp (Wk.wrap (j.number.tdiv 64)) 0 then(e8 a.2.jn g.1).bind λy=>(y[f.number.toNat]?).bind λz=>((bp dz e c).getD Y).bind λA=>(a.2.eY[A]?).bind λk=>(dv (decide (64≠0))).bind λ_=>(dv (decide (0<=k.number.tmod 64))).bind λ_=>O (((IntKind.u64.wrap ((BitVec.ofInt IntKind.u64.bits (z.e0.fdiv (2^(min ((k.number.tmod 64).toNat) IntKind.u64.bits)))&&&BitVec.ofInt IntKind.u64.bits 1).toNat))==1),a.2)else bif dp (Wk.wrap (j.number.tdiv 64)) 1 then(e8 a.2.jn g.1).bind λB=>(B[f.number.toNat]?).bind λC=>((bp dz e c).getD Y).bind λD=>(a.2.eY[D]?).bind λl=>(dv (decide (64≠0))).bind λ_=>(dv (decide (0<=l.number.tmod 64))).bind λ_=>O (((IntKind.u64.wrap ((BitVec.ofInt IntKind.u64.bits (C.e1.fdiv (2^(min ((l.number.tmod 64).toNat) IntKind.u64.bits)))&&&BitVec.ofInt IntKind.u64.bits 1).toNat))==1),a.2)else Y
abbrev agm:bZ U:=⟨[km,.str,.str],[.v .bool],Y,.st (M6 N)⟩
def agn:Holds 124 (agm N):=gS N f124 .leaf (cn (aeL N) (cn (aeN N) nl))
def W1:gB×Int->Hp->V ((Z Int)×Hp):=λ(a,b) h=>(Gy N a).bind λd=>bif !(d==0)then O ([],h)else(Vw N (a,b)).bind λe=>bif e<0 then O ([],h)else(TB N (a,b) h).bind λc=>O (c.1,c.2)
abbrev ago:bZ U:=⟨[cb,.I],[.v ec],Y,.st (W1 N)⟩
def agp:Holds 125 (ago N):=gS N f125 .leaf (cn (G16 N) (cn (G44 N) (cn (aeC N) nl)))
def pt(N:Nat)(rec:ajt):(V Nat)×cY×aju->Hp->V ((Except cV dw)×Hp):=λ(d,b,I) h=>(ax b.aD 0).bind λJ=>(M5 N rec (d,J,I) h).bind λa=>eG a.1 (λK=>O (Except.error K,a.2)) λc=>bif b.kind==8 then aG (λ(_:ab×ab)=>(KD N []).bind λL=>O (Except.ok L,a.2)) λP=>aQ (λQ((j,_):Int×ab)=>bif j<c.bd.length then(ax c.bd j).bind λB=>bif B.name==b.text then(KD N B.value).bind λR=>O (Except.ok R,a.2)else Q (Wk.wrap (j+1),())else P ((),())) N (0,())else bif b.kind==9 then aG (λ(((S,T,U,X,b0,c0),_):(Int×Int×bP×aa×Int×(Z Int))×ab)=>O (Except.ok (dw.mk S T U X b0 c0),a.2)) λd0=>aQ (λe0(((k,l,m,n,o,p,f),_):(Int×Int×Int×bP×aa×Int×(Z Int))×ab)=>bif k<c.aD.length then aG (λ(((f0,g0,h0,i0,j0,k0),_):(Int×Int×bP×aa×Int×(Z Int))×ab)=>e0 ((Wk.wrap (k+1),f0,g0,h0,i0,j0,k0),())) λC=>(ax c.aD k).bind λq=>d.bind λl0=>(a.2.sY[l0]?).bind λm0=>(dX a.2.vy m0.pH).bind λn0=>bif (((bp dp n0 q).getD (Nd.mk 0 [] 0 [] [] [] [])).role)==b.text then(dv (cF 8 (f.length+[q].length) 140737488355328)).bind λ_=>C ((l,m,n,o,p,f++[q]),())else C ((l,m,n,o,p,f),())else d0 ((l,m,n,o,p,f),())) N ((0,5,0,[],F,0,[]),())else bif b.kind==10 then aG (λ(_:ab×ab)=>(Im N 0).bind λo0=>O (Except.ok o0,a.2)) λp0=>aQ (λD((g,_):Int×ab)=>bif g<c.bK.length then(ax c.bK g).bind λr=>d.bind λq0=>(a.2.sY[q0]?).bind λr0=>(dX a.2.vy r0.pH).bind λs0=>bif (bp dp s0 r.target).isSome then bif r.role==b.text then(Im N r.target).bind λt0=>O (Except.ok t0,a.2)else D (Wk.wrap (g+1),())else D (Wk.wrap (g+1),())else p0 ((),())) N (0,())else bif b.kind==11 then(Im N c.cu).bind λu0=>O (Except.ok u0,a.2)else bif b.kind==12 then d.bind λw0=>(a.2.sY[w0]?).bind λx0=>(M6 N (x0.t,c.au,b.text) a.2).bind λE=>(sZ N E.1).bind λy0=>O (Except.ok y0,E.2)else aG (λ(((A0,B0,C0,D0,E0,G0),H0):(Int×Int×bP×aa×Int×(Z Int))×Hp)=>O (Except.ok (dw.mk A0 B0 C0 D0 E0 G0),H0)) λI0=>d.bind λJ0=>(a.2.sY[J0]?).bind λK0=>(W1 N (K0.m,c.iD) a.2).bind λs=>aQ (λL0(((t,u,v,w,x,y,i),G):(Int×Int×Int×bP×aa×Int×(Z Int))×Hp)=>bif t<s.1.length then aG (λ(((N0,P0,Q0,R0,S0,T0),U0):(Int×Int×bP×aa×Int×(Z Int))×Hp)=>L0 ((Wk.wrap (t+1),N0,P0,Q0,R0,S0,T0),U0)) λH=>(ax s.1 t).bind λz=>(Ys N d G).bind λe=>eG e.1 (λX0=>O (Except.error X0,e.2)) λg1=>d.bind λb1=>(e.2.sY[b1]?).bind λc1=>d.bind λd1=>(e.2.sY[d1]?).bind λe1=>(dX e.2.vy e1.pH).bind λf1=>(M6 N (c1.t,((bp dp f1 z).getD (Nd.mk 0 [] 0 [] [] [] [])).au,b.text) e.2).bind λA=>bif A.1 then(dv (cF 8 (i.length+[z].length) 140737488355328)).bind λ_=>H ((u,v,w,x,y,i++[z]),A.2)else H ((u,v,w,x,y,i),A.2)else I0 ((u,v,w,x,y,i),G)) N ((0,5,0,[],F,0,[]),s.2)
abbrev K48(N:Nat)(rec:ajt):bZ U:=⟨[iX,cU,(.lP .str fi)],[.v bg],(O (74,dM)),.st (pt N rec)⟩
def G48(N:Nat)(rec:ajt)(E:cd)(a:oN E)(b:eb PP E TT (BB.lA 0 []) 20 (Ip rec)):eb PP E TT (BB.lA 0 []) 48 (K48 N rec):=mJ SS a.ro f48 (K48 N rec) N [(50,999),(125,999)] (.q (.q (.seq Y (.q (.block (.q (.cond (.seq (O ⟨F,[6],[],[6],[]⟩) (.B ⟨F,[4,6,32,33],[(34,.val .I)],[4,6],[]⟩ .leaf) .leaf) (.q (.cond (.q (.seq (O ⟨F,[6,10],[],[6],[(10,.cells bg [.val .I,.val .I,.val .str,.val .bool,.val .I,.bR 501005 .I 3])]⟩) (.B ⟨F,[0,4,6,10,52,53],[(54,.val .I)],[4,6],[(10,.cells bg [.val .I,.val .I,.val .str,.val .bool,.val .I,.bR 501005 .I 3])]⟩ (.q (.q (.seq (O ⟨F,[0,4,6,10,52,53,54],[],[4,6],[(10,.cells bg [.val .I,.val .I,.val .str,.val .bool,.val .I,.bR 501005 .I 3])]⟩) .leaf .leaf)))) .leaf)) (.q (.cond (.seq (O ⟨F,[6],[],[6],[]⟩) (.B ⟨F,[0,4,6,79,80],[(81,.val .I)],[4,6],[]⟩ .leaf) .leaf) .leaf)))))))) (.q (.seq (O ⟨W,[6,17],[],[6],[(17,.cells bg [.val .I,.val .I,.val .str,.val .bool,.val .I,.bR 501705 .I 3])]⟩) (.B ⟨W,[0,4,6,17,132,133],[(134,.val .I)],[4,6],[(17,.cells bg [.val .I,.val .I,.val .str,.val .bool,.val .I,.bR 501705 .I 3])]⟩ (.q (.q (.seq (O ⟨W,[0,4,6,17,132,133,134],[],[4,6],[(17,.cells bg [.val .I,.val .I,.val .str,.val .bool,.val .I,.bR 501705 .I 3])]⟩) .leaf .leaf)))) .leaf))))) (.cons (G46 N E a) (.cons (r3 N E a) (.cons (W0 N E a) (.cons (aak N E a) (.cons (ab9 N rec E a b) (.cons (agn N E a) (.cons (agp N E a) .nil))))))) (pt N rec) ap ap ap λ_ _=>ap
def EH(N:Nat)(rec:ajt):(V Nat)×Int×aju->Hp->V ((Except cV (Z Int))×Hp):=λ(c,d,e) h=>(rec (c,d,e) h).bind λa=>eG a.1 (λf=>O (Except.error f,a.2)) λb=>(kb N (b.kind==5,90)).bind λg=>eG g (λi=>O (Except.error i,a.2)) λj=>O (Except.ok b.bk,a.2)
abbrev aca(N:Nat)(rec:ajt):bZ U:=⟨[iX,.I,(.lP .str fi)],[.v ec],(O (74,dM)),.st (EH N rec)⟩
def acb(N:Nat)(rec:ajt)(E:cd)(a:oN E)(b:eb PP E TT (BB.lA 0 []) 20 (Ip rec)):eb PP E TT (BB.lA 0 []) 126 (aca N rec):=mJ SS a.ro f126 (aca N rec) N [] .leaf (.cons b (.cons (Io N E a) .nil)) (EH N rec) ap ap ap λ_ _=>ap
def aal:Int->V bP:=λa=>(ZW N (a,10)).bind λb=>O b
abbrev agq:bZ U:=⟨[.I],[.v .str],Y,.pure (aal N)⟩
def agr:Holds 127 (agq N):=gP N f127 .leaf (cn (aeH N) nl)
def KE(N:Nat)(rec:ajt):(V Nat)×Int×aju->Hp->V ((Except cV Int)×Hp):=λ(c,d,e) h=>(rec (c,d,e) h).bind λa=>eG a.1 (λf=>O (Except.error f,a.2)) λb=>(kb N (b.kind==1,90)).bind λg=>eG g (λi=>O (Except.error i,a.2)) λj=>O (Except.ok b.int,a.2)
abbrev acd(N:Nat)(rec:ajt):bZ U:=⟨[iX,.I,(.lP .str fi)],[.v .I],(O (74,dM)),.st (KE N rec)⟩
def ace(N:Nat)(rec:ajt)(E:cd)(a:oN E)(b:eb PP E TT (BB.lA 0 []) 20 (Ip rec)):eb PP E TT (BB.lA 0 []) 128 (acd N rec):=mJ SS a.ro f128 (acd N rec) N [] .leaf (.cons b (.cons (Io N E a) .nil)) (KE N rec) ap ap ap λ_ _=>ap
def F49(N:Nat)(rec:ajt):(V Nat)×cY×aju->Hp->V ((Except cV dw)×Hp):=λ(b,a,c) h=>(ax a.aD 0).bind λd=>bif a.kind==14 then(EH N rec (b,d,c) h).bind λg=>eG g.1 (λo=>O (Except.error o,g.2)) λp=>(Au N (p.length:Int)).bind λq=>O (Except.ok q,g.2)else bif a.kind==15 then(EH N rec (b,d,c) h).bind λf=>eG f.1 (λr=>O (Except.error r,f.2)) λl=>bif 0<(l.length:Int)then(ax l 0).bind λs=>(Im N s).bind λt=>O (Except.ok t,f.2)else(Im N 0).bind λu=>O (Except.ok u,f.2)else bif a.kind==16 then(KE N rec (b,d,c) h).bind λi=>eG i.1 (λv=>O (Except.error v,i.2)) λw=>(aal N w).bind λx=>(KD N x).bind λy=>O (Except.ok y,i.2)else bif a.kind==17 then(M5 N rec (b,d,c) h).bind λj=>eG j.1 (λz=>O (Except.error z,j.2)) λA=>(KD N A.au).bind λB=>O (Except.ok B,j.2)else bif a.kind==18 then(M5 N rec (b,d,c) h).bind λk=>eG k.1 (λC=>O (Except.error C,k.2)) λD=>(Au N D.iD).bind λE=>O (Except.ok E,k.2)else(ax a.aD 0).bind λG=>(rec (b,G,c) h).bind λe=>eG e.1 (λH=>O (Except.error H,e.2)) λm=>(kb N (m.kind==2,90)).bind λI=>eG I (λJ=>O (Except.error J,e.2)) λQ=>(ZX N m.text).bind λn=>(kb N (n.2==0,103)).bind λK=>eG K (λL=>O (Except.error L,e.2)) λR=>(Au N n.1).bind λP=>O (Except.ok P,e.2)
abbrev K49(N:Nat)(rec:ajt):bZ U:=⟨[iX,cU,(.lP .str fi)],[.v bg],(O (74,dM)),.st (F49 N rec)⟩
def G49(N:Nat)(rec:ajt)(E:cd)(a:oN E)(b:eb PP E TT (BB.lA 0 []) 20 (Ip rec)):eb PP E TT (BB.lA 0 []) 49 (K49 N rec):=mJ SS a.ro f49 (K49 N rec) N [] .leaf (.cons b (.cons (WZ N E a) (.cons (W0 N E a) (.cons (aak N E a) (.cons (Io N E a) (.cons (ab9 N rec E a b) (.cons (acb N rec E a b) (.cons (agr N E a) (.cons (ace N rec E a b) (.cons (aeG N E a) .nil)))))))))) (F49 N rec) ap ap ap λ_ _=>ap
def M7:Int×Int->V (Except cV Int):=λ(b,a)=>bif 0<=a then bif b<=Wk.wrap (9223372036854775807-a)then(kb N (W,101)).bind λc=>eG c (λd=>O (Except.error d)) λm=>O (Except.ok (Wk.wrap (b+a)))else bif a<0 then(kb N (decide (Wk.wrap ((-9223372036854775808)-a)<=b),101)).bind λe=>eG e (λf=>O (Except.error f)) λn=>O (Except.ok (Wk.wrap (b+a)))else(kb N (F,101)).bind λg=>eG g (λh=>O (Except.error h)) λo=>O (Except.ok (Wk.wrap (b+a)))else bif a<0 then(kb N (decide (Wk.wrap ((-9223372036854775808)-a)<=b),101)).bind λi=>eG i (λj=>O (Except.error j)) λp=>O (Except.ok (Wk.wrap (b+a)))else(kb N (F,101)).bind λk=>eG k (λl=>O (Except.error l)) λq=>O (Except.ok (Wk.wrap (b+a)))
abbrev ags:bZ U:=⟨[.I,.I],[.v .I],(O (74,dM)),.pure (M7 N)⟩
def acf:Holds 130 (ags N):=gP N f130 .leaf (cn (Io N) nl)
def Yt:Int×dw×dw->V (Except cV dw):=λ(e,b,a)=>aG (λ((h,_):aa×ab)=>bif h then(kb N (decide (Wk.wrap ((b.text.length:Int)+(a.text.length:Int))<=4096),3)).bind λi=>eG i (λj=>O (Except.error j)) λR=>(dv (decide (b.text.length+a.text.length<=maxLen))).bind λ_=>(KD N (b.text++a.text)).bind λk=>O (Except.ok k)else aG (λ(_:ab×ab)=>bif e==20 then(M7 N (b.int,a.int)).bind λl=>eG l (λm=>O (Except.error m)) λn=>(Au N n).bind λo=>O (Except.ok o)else bif e==21 then aG (λ(_:ab×ab)=>(Au N (Wk.wrap (b.int-a.int))).bind λp=>O (Except.ok p)) λc=>bif 0<=a.int then bif Wk.wrap ((-9223372036854775808)+a.int)<=b.int then(kb N (W,101)).bind λq=>eG q (λr=>O (Except.error r)) λS=>c ((),())else bif a.int<0 then(kb N (decide (b.int<=Wk.wrap (9223372036854775807+a.int)),101)).bind λs=>eG s (λt=>O (Except.error t)) λT=>c ((),())else(kb N (F,101)).bind λu=>eG u (λv=>O (Except.error v)) λU=>c ((),())else bif a.int<0 then(kb N (decide (b.int<=Wk.wrap (9223372036854775807+a.int)),101)).bind λw=>eG w (λx=>O (Except.error x)) λX=>c ((),())else(kb N (F,101)).bind λy=>eG y (λz=>O (Except.error z)) λb0=>c ((),())else aG (λ(_:ab×ab)=>(Au N (Wk.wrap (b.int*a.int))).bind λA=>O (Except.ok A)) λd=>bif b.int==0 then(kb N (W,101)).bind λB=>eG B (λC=>O (Except.error C)) λc0=>d ((),())else(dv (decide (b.int≠0))).bind λ_=>bif (Wk.wrap ((Wk.wrap (b.int*a.int)).tdiv b.int))==a.int then bif !(b.int==(-1))then(kb N (W,101)).bind λD=>eG D (λE=>O (Except.error E)) λd0=>d ((),())else(kb N (!(a.int==(-9223372036854775808)),101)).bind λG=>eG G (λH=>O (Except.error H)) λe0=>d ((),())else(kb N (F,101)).bind λI=>eG I (λJ=>O (Except.error J)) λf0=>d ((),())) λg=>bif b.kind==1 then(kb N (a.kind==1,90)).bind λK=>eG K (λL=>O (Except.error L)) λg0=>g ((),())else(kb N (F,90)).bind λP=>eG P (λQ=>O (Except.error Q)) λh0=>g ((),())) λf=>bif e==20 then bif b.kind==2 then f ((a.kind==2),())else f (F,())else f (F,())
abbrev K50:bZ U:=⟨[.I,bg,bg],[.v bg],(O (74,dM)),.pure (Yt N)⟩
def G50:Holds 50 (K50 N):=gP N f50 (.q (.seq Y (.seq (O ⟨F,[0,4,5,6],[(21,.val .bool)],[4,5,6],[]⟩) .leaf .leaf) (.seq (O ⟨F,[0,4,5,6],[],[4,5,6],[]⟩) .leaf (.q (.seq Y (.q (.block (.q (.cond .leaf (.q (.cond (.seq (O ⟨F,[6,7,8],[],[6],[]⟩) .leaf .leaf) .leaf)))))) (.q (.seq (O ⟨F,[6,9],[],[6],[]⟩) .leaf .leaf))))))) (cn (WZ N) (cn (W0 N) (cn (Io N) (cn (acf N) nl))))
def yE:Int×dw×dw->V (Except cV dw):=λ(i,a,b)=>aG (λ(_:ab×ab)=>aG (λ((j,_):aa×ab)=>bif i==23 then(sZ N j).bind λm=>O (Except.ok m)else bif i==24 then(sZ N (!j)).bind λn=>O (Except.ok n)else aG (λ(_:ab×ab)=>aG (λ(((o,p,q,r,s,t),_):(Int×Int×bP×aa×Int×(Z Int))×ab)=>O (Except.ok (dw.mk o p q r s t))) λg=>bif a.int<b.int then(sZ N W).bind λc=>g ((c.kind,c.int,c.text,c.bool,c.node,c.bk),())else bif Op.bytesLess a.text b.text then(sZ N W).bind λd=>g ((d.kind,d.int,d.text,d.bool,d.node,d.bk),())else bif j then(sZ N (i==26)).bind λe=>g ((e.kind,e.int,e.text,e.bool,e.node,e.bk),())else(sZ N F).bind λf=>g ((f.kind,f.int,f.text,f.bool,f.node,f.bk),())) λk=>bif a.kind==1 then(kb N (W,90)).bind λu=>eG u (λv=>O (Except.error v)) λC=>k ((),())else(kb N (a.kind==2,90)).bind λw=>eG w (λx=>O (Except.error x)) λD=>k ((),())) λh=>bif a.int==b.int then bif a.text==b.text then bif (a.bool==b.bool)then h ((a.node==b.node),())else h (F,())else h (F,())else h (F,())) λl=>bif a.kind==b.kind then(kb N (!(a.kind==5),90)).bind λy=>eG y (λz=>O (Except.error z)) λE=>l ((),())else(kb N (F,90)).bind λA=>eG A (λB=>O (Except.error B)) λG=>l ((),())
abbrev K51:bZ U:=⟨[.I,bg,bg],[.v bg],(O (74,dM)),.pure (yE N)⟩
def G51:Holds 51 (K51 N):=gP N f51 (.q (.seq (O ⟨F,[0,4,5,6],[],[4,5,6],[]⟩) .leaf (.seq (O ⟨F,[0,4,5,6],[(7,.val .bool)],[4,5,6],[]⟩) .leaf (.q (.seq (O ⟨F,[0,4,5,6,7],[],[4,5,6],[]⟩) .leaf (.seq (O ⟨F,[6],[],[],[(6,.cells bg [.val .I,.val .I,.val .str,.val .bool,.val .I,.val ec])]⟩) .leaf .leaf)))))) (cn (r3 N) (cn (Io N) nl))
def M8(N:Nat)(rec:ajt):(V Nat)×Int×aju->Hp->V ((Except cV aa)×Hp):=λ(c,d,e) h=>(rec (c,d,e) h).bind λa=>eG a.1 (λf=>O (Except.error f,a.2)) λb=>(kb N (b.kind==3,90)).bind λg=>eG g (λi=>O (Except.error i,a.2)) λj=>O (Except.ok b.bool,a.2)
abbrev K52(N:Nat)(rec:ajt):bZ U:=⟨[iX,.I,(.lP .str fi)],[.v .bool],(O (74,dM)),.st (M8 N rec)⟩
def G52(N:Nat)(rec:ajt)(E:cd)(a:oN E)(b:eb PP E TT (BB.lA 0 []) 20 (Ip rec)):eb PP E TT (BB.lA 0 []) 52 (K52 N rec):=mJ SS a.ro f52 (K52 N rec) N [] .leaf (.cons b (.cons (Io N E a) .nil)) (M8 N rec) ap ap ap λ_ _=>ap
def Iq(N:Nat):bP×cY×Int×aju->Hp->V ((Int×aa)×Hp):=λ(b,c,d,e) h=>bif b==c.text then O ((d,W),h)else(e b h).bind λa=>O ((a.1.1,a.1.2),a.2)
abbrev agt:bZ U:=⟨[.str,(.cell cU),lp,(.iC .str fi)],[.v .I,.v .bool],Y,.st (Iq N)⟩
def agu:Holds 131 (agt N):=gS N f131 .leaf nl
def F54(N:Nat)(rec:ajt):(V Nat)×cY×aju->Hp->V ((Except cV dw)×Hp):=λ(b,a,c) h=>bif a.kind==33 then(ax a.aD 0).bind λk0=>(EH N rec (b,k0,c) h).bind λX=>eG X.1 (λl0=>O (Except.error l0,X.2)) λd0=>aQ (λx(((i,o,p,q,d,r,j),e0):(Int×Int×Int×bP×aa×Int×(Z Int))×Hp)=>bif i<d0.length then(ax d0 i).bind λK=>(Ys N b e0).bind λL=>eG L.1 (λm0=>O (Except.error m0,L.2)) λt1=>bif a.kind==34 then(ax a.aD 1).bind λn0=>(KE N rec (b,n0,λo0 p0=>Iq N (o0,a,K,c) p0) L.2).bind λP=>eG P.1 (λq0=>O (Except.error q0,P.2)) λr0=>(M7 N (p,r0)).bind λs0=>eG s0 (λt0=>O (Except.error t0,P.2)) λu0=>x ((Wk.wrap (i+1),o,u0,q,d,r,j),P.2)else(ax a.aD 1).bind λw0=>(M8 N rec (b,w0,λx0 y0=>Iq N (x0,a,K,c) y0) L.2).bind λe=>eG e.1 (λA0=>O (Except.error A0,e.2)) λG=>bif a.kind==33 then bif G then(dv (cF 8 (j.length+[K].length) 140737488355328)).bind λ_=>x ((Wk.wrap (i+1),o,p,q,d,r,j++[K]),e.2)else bif !(a.kind==33)then bif !(G==d)then(sZ N G).bind λB0=>O (Except.ok B0,e.2)else x ((Wk.wrap (i+1),o,p,q,d,r,j),e.2)else x ((Wk.wrap (i+1),o,p,q,d,r,j),e.2)else bif !(a.kind==33)then bif !(G==d)then(sZ N G).bind λC0=>O (Except.ok C0,e.2)else x ((Wk.wrap (i+1),o,p,q,d,r,j),e.2)else x ((Wk.wrap (i+1),o,p,q,d,r,j),e.2)else O (Except.ok (dw.mk o p q d r j),e0)) N ((0,5,0,[],F,0,[]),X.2)else bif a.kind==34 then(Au N 0).bind λy=>(ax a.aD 0).bind λD0=>(EH N rec (b,D0,c) h).bind λb0=>eG b0.1 (λE0=>O (Except.error E0,b0.2)) λf0=>aQ (λH(((s,z,A,B,k,C,D),g0):(Int×Int×Int×bP×aa×Int×(Z Int))×Hp)=>bif s<f0.length then(ax f0 s).bind λh0=>(Ys N b g0).bind λQ=>eG Q.1 (λG0=>O (Except.error G0,Q.2)) λu1=>bif a.kind==34 then(ax a.aD 1).bind λH0=>(KE N rec (b,H0,λI0 J0=>Iq N (I0,a,h0,c) J0) Q.2).bind λR=>eG R.1 (λK0=>O (Except.error K0,R.2)) λL0=>(M7 N (A,L0)).bind λN0=>eG N0 (λP0=>O (Except.error P0,R.2)) λQ0=>H ((Wk.wrap (s+1),z,Q0,B,k,C,D),R.2)else(ax a.aD 1).bind λR0=>(M8 N rec (b,R0,λS0 T0=>Iq N (S0,a,h0,c) T0) Q.2).bind λl=>eG l.1 (λU0=>O (Except.error U0,l.2)) λI=>bif a.kind==33 then bif I then Y else bif !(a.kind==33)then bif !(I==k)then(sZ N I).bind λX0=>O (Except.ok X0,l.2)else H ((Wk.wrap (s+1),z,A,B,k,C,D),l.2)else H ((Wk.wrap (s+1),z,A,B,k,C,D),l.2)else bif !(a.kind==33)then bif !(I==k)then(sZ N I).bind λb1=>O (Except.ok b1,l.2)else H ((Wk.wrap (s+1),z,A,B,k,C,D),l.2)else H ((Wk.wrap (s+1),z,A,B,k,C,D),l.2)else O (Except.ok (dw.mk z A B k C D),g0)) N ((0,y.kind,y.int,y.text,y.bool,y.node,y.bk),b0.2)else(ax a.aD 0).bind λc1=>(EH N rec (b,c1,c) h).bind λc0=>eG c0.1 (λd1=>O (Except.error d1,c0.2)) λi0=>aQ (λE(((m,t,u,v,f,w,n),j0):(Int×Int×Int×bP×aa×Int×(Z Int))×Hp)=>bif m<i0.length then(ax i0 m).bind λS=>(Ys N b j0).bind λT=>eG T.1 (λe1=>O (Except.error e1,T.2)) λv1=>bif a.kind==34 then(ax a.aD 1).bind λf1=>(KE N rec (b,f1,λg1 h1=>Iq N (g1,a,S,c) h1) T.2).bind λU=>eG U.1 (λi1=>O (Except.error i1,U.2)) λj1=>(M7 N (u,j1)).bind λk1=>eG k1 (λl1=>O (Except.error l1,U.2)) λm1=>E ((Wk.wrap (m+1),t,m1,v,f,w,n),U.2)else(ax a.aD 1).bind λn1=>(M8 N rec (b,n1,λo1 p1=>Iq N (o1,a,S,c) p1) T.2).bind λg=>eG g.1 (λq1=>O (Except.error q1,g.2)) λJ=>bif a.kind==33 then bif J then(dv (cF 8 (n.length+[S].length) 140737488355328)).bind λ_=>E ((Wk.wrap (m+1),t,u,v,f,w,n++[S]),g.2)else bif !(a.kind==33)then bif !(J==f)then(sZ N J).bind λr1=>O (Except.ok r1,g.2)else E ((Wk.wrap (m+1),t,u,v,f,w,n),g.2)else E ((Wk.wrap (m+1),t,u,v,f,w,n),g.2)else bif !(a.kind==33)then bif !(J==f)then(sZ N J).bind λs1=>O (Except.ok s1,g.2)else E ((Wk.wrap (m+1),t,u,v,f,w,n),g.2)else E ((Wk.wrap (m+1),t,u,v,f,w,n),g.2)else O (Except.ok (dw.mk t u v f w n),j0)) N ((0,3,0,[],a.kind==32,0,[]),c0.2)
abbrev K54(N:Nat)(rec:ajt):bZ U:=⟨[iX,cU,(.lP .str fi)],[.v bg],(O (74,dM)),.st (F54 N rec)⟩
def G54(N:Nat)(rec:ajt)(E:cd)(a:oN E)(b:eb PP E TT (BB.lA 0 []) 20 (Ip rec)):eb PP E TT (BB.lA 0 []) 54 (K54 N rec):=mJ SS a.ro f54 (K54 N rec) N [(4,998),(5,997),(15,999),(20,999)] (.q (.q (.q (.seq Y (.q (.block (.alt (.loop ⟨W,[0,4,5,6,7,30,31],[(32,.val .I)],[6],[(7,.cells bg [.val .I,.val .I,.val .str,.val .bool,.val .I,.bR 500705 .I 3])]⟩ .leaf) (.loop ⟨W,[0,4,5,6,7,30,31],[(32,.val .I)],[6],[(7,.cells bg [.val .I,.val .I,.val .str,.val .bool,.val .I,.val ec])]⟩ .leaf)))) .leaf)))) (.cons (G46 N E a) (.cons (G52 N rec E a b) (.cons (r3 N E a) (.cons (WZ N E a) (.cons (acb N rec E a b) (.cons (ace N rec E a b) (.cons (acf N E a) (.cons (agu N E a) .nil)))))))) (F54 N rec) ap ap ap λ_ _=>ap
def W2(N:Nat)(rec:ajt):ajt:=λ(b,v,c) h=>(Ys N b h).bind λd=>eG d.1 (λw=>O (Except.error w,d.2)) λG0=>b.bind λx=>(d.2.sY[x]?).bind λy=>(ax y.e.aj v).bind λa=>bif a.kind<=7 then(F47 N (b,a,c) d.2).bind λj=>eG j.1 (λz=>O (Except.error z,j.2)) λA=>O (Except.ok A,j.2)else bif a.kind<=13 then(pt N rec (b,a,c) d.2).bind λk=>eG k.1 (λB=>O (Except.error B,k.2)) λC=>O (Except.ok C,k.2)else bif a.kind<=19 then(F49 N rec (b,a,c) d.2).bind λl=>eG l.1 (λD=>O (Except.error D,l.2)) λE=>O (Except.ok E,l.2)else bif a.kind<=26 then(ax a.aD 0).bind λG=>(rec (b,G,c) d.2).bind λm=>eG m.1 (λH=>O (Except.error H,m.2)) λt=>(ax a.aD 1).bind λI=>(rec (b,I,c) m.2).bind λe=>eG e.1 (λJ=>O (Except.error J,e.2)) λu=>bif a.kind<=22 then(Yt N (a.kind,t,u)).bind λK=>eG K (λL=>O (Except.error L,e.2)) λP=>O (Except.ok P,e.2)else(yE N (a.kind,t,u)).bind λQ=>eG Q (λR=>O (Except.error R,e.2)) λS=>O (Except.ok S,e.2)else bif a.kind==27 then(ax a.aD 0).bind λT=>(M8 N rec (b,T,c) d.2).bind λf=>eG f.1 (λU=>O (Except.error U,f.2)) λX=>bif !(X==(a.kind==27))then(sZ N (a.kind==28)).bind λb0=>O (Except.ok b0,f.2)else(ax a.aD 1).bind λc0=>(M8 N rec (b,c0,c) f.2).bind λn=>eG n.1 (λd0=>O (Except.error d0,n.2)) λe0=>(sZ N e0).bind λf0=>O (Except.ok f0,n.2)else bif a.kind==28 then(ax a.aD 0).bind λg0=>(M8 N rec (b,g0,c) d.2).bind λg=>eG g.1 (λh0=>O (Except.error h0,g.2)) λi0=>bif !(i0==(a.kind==27))then(sZ N (a.kind==28)).bind λj0=>O (Except.ok j0,g.2)else(ax a.aD 1).bind λk0=>(M8 N rec (b,k0,c) g.2).bind λo=>eG o.1 (λl0=>O (Except.error l0,o.2)) λm0=>(sZ N m0).bind λn0=>O (Except.ok n0,o.2)else bif a.kind==29 then(ax a.aD 0).bind λo0=>(M8 N rec (b,o0,c) d.2).bind λp=>eG p.1 (λp0=>O (Except.error p0,p.2)) λq0=>(sZ N (!q0)).bind λr0=>O (Except.ok r0,p.2)else bif a.kind==30 then(ax a.aD 0).bind λs0=>(M8 N rec (b,s0,c) d.2).bind λi=>eG i.1 (λt0=>O (Except.error t0,i.2)) λu0=>bif u0 then(ax a.aD 1).bind λw0=>(rec (b,w0,c) i.2).bind λq=>eG q.1 (λx0=>O (Except.error x0,q.2)) λy0=>O (Except.ok y0,q.2)else(ax a.aD 2).bind λA0=>(rec (b,A0,c) i.2).bind λr=>eG r.1 (λB0=>O (Except.error B0,r.2)) λC0=>O (Except.ok C0,r.2)else(F54 N rec (b,a,c) d.2).bind λs=>eG s.1 (λD0=>O (Except.error D0,s.2)) λE0=>O (Except.ok E0,s.2)
def Av(N:Nat):Nat->ajt
 |0=>λ_ _=>Y|n+1=>W2 N (Av N n)
def F20:ajt:=Av N N
abbrev K20:bZ U:=⟨[iX,.I,(.lP .str fi)],[.v bg],(O (74,dM)),.st (F20 N)⟩
def acg(N:Nat)(E:cd)(a:oN E):∀n,eb PP E TT (BB.lA 0 []) 20 (Ip (Av N n))
 |0=>Dg ap|n+1=>have b:=acg N E a n
  mJ SS a.ro f20 (Ip (Av N (n+1))) N [] .leaf (.cons b (.cons (G46 N E a) (.cons (G47 N E a) (.cons (G48 N (Av N n) E a b) (.cons (G49 N (Av N n) E a b) (.cons (G50 N E a) (.cons (G51 N E a) (.cons (G52 N (Av N n) E a b) (.cons (r3 N E a) (.cons (G54 N (Av N n) E a b) .nil)))))))))) (Av N (n+1)) ap ap ap λ_ _=>ap
def G20:Holds 20 (K20 N):=λE a=>acg N E a N
def F21(N:Nat):bP->V (Int×aa):=λa=>O (0,F)
abbrev K21:bZ U:=⟨[.str],[.v .I,.v .bool],Y,.pure (F21 N)⟩
def G21:Holds 21 (K21 N):=gP N f21 .leaf nl
end
end Go.Proofs.Mo
namespace Go.Proofs.Mo
open Go Go.Ev Go.X Go.Proofs
def aaB(N:Nat):Z tW->V (bP×Int):=λl=>match l with
 |[t]=>(aaA N t).bind λy=>bif y then(dv (t.kind==3&&(!t.text.isEmpty&&decide (t.text.length<=4096)))).bind λ_=>O (t.text,0)else O ([],2)|_=>Y
abbrev ahL(N:Nat):bZ U:=⟨[.bk iH],[.v .str,.v .I],Y,.pure (aaB N)⟩
theorem qY{E:cd}{w0 w:af}{I0 I:aA}(h:ee E.plain w0 I0 w I)(a:∀p,I0 p->p.block<w0.heap.size/\¬E.cf w0 p.block){p:bY}{v:ag}(b:I0 p)(c:w0.cell? p=O v):w.cell? p=O v:=by
 have d:=World.cell?_spot c;have e:=h.block p.block (a p b).1 (a p b).2 (cd.eO _ _);rw[<-c];unfold World.cell?
 grind
theorem Xw{w:af}{I:aA}(t:tW):cy w I (Up t.kind t.int t.Ic ⟨t.text.toArray⟩) (enc TT iH t):=by
 have e:enc TT iH t=.agg [.fl (.int .i64 t.kind),.fl (bs t.text),.fl (.int .i64 t.int),.fl (.int .i64 t.Ic)]:=rfl;rw[e];refine .agg _ _ rfl λj c a=>?_;match j,a with
 |0,a=>cases a;exact .fl _ rfl
 |1,a=>cases a;exact .fl _ rfl
 |2,a=>cases a;exact .fl _ rfl
 |3,a=>cases a;exact .fl _ rfl
 |j+4,a=>grind
theorem aaC{w:af}{I:aA}{t:tW}{v:ag}(h:cy w I v (.sl [enc TT iH t])):∃B o cap,v=.slice (O ⟨B,o,Y⟩) 1 cap/\KO B o t.kind t.int t.Ic ⟨t.text.toArray⟩ w/\∀j,j<4->I ⟨B,o+j,Y⟩:=by
 have e:(enc TT iH t).cells=[.fl (.int .i64 t.kind),.fl (bs t.text),.fl (.int .i64 t.int),.fl (.int .i64 t.Ic)]:=rfl;cases h with
 |sl a n cap sz xs m b p q hsz d f i=>
  have b:n=1:=b;subst b;have g:∀(j:Nat)(x:ag),([.fl (.int .i64 t.kind),.fl (bs t.text),.fl (.int .i64 t.int),.fl (.int .i64 t.Ic)]:Z AV)[j]?=O (.fl x)->w.cell? (a.add j)=O x/\I (a.add j):=λj x c=>by
   have r:=d 0 j _ (.fl x) rfl (by grind);have s:=f 0 j _ (.fl x) rfl (by grind);have u:=bV (i 0 j _ (.fl x) rfl (by grind))
   grind
  obtain⟨B,o,k⟩:=a;have l:k=Y:=World.cell?_spot (g 0 _ rfl).1;subst l;refine⟨B,o,cap,rfl,⟨(g 0 _ rfl).1,(g 1 _ rfl).1,(g 2 _ rfl).1,(g 3 _ rfl).1⟩,λj c=>?_⟩;match j,c with
  |0,_=>exact (g 0 _ rfl).2|1,_=>exact (g 1 _ rfl).2
  |2,_=>exact (g 2 _ rfl).2|3,_=>exact (g 3 _ rfl).2
theorem ahM(N:Nat):Holds 201 (ahL N):=λE D=>gI ap (by
 intro l R r G f;obtain⟨a,_,rfl,⟨_,rfl⟩,rfl⟩:=G;change Z tW at l;match l,f with
 |[t],f=>
  obtain⟨y,H,f⟩:=bind_some f;refine⟨Go.Proofs.enters_of (fn:=f201) (by simp_all) ap (c:=f201.body.getD .skip) ap,λw0 I0 vs J m A=>?_⟩;have S:vs.size=1:=by have:=A.1;grind
  obtain⟨v,rfl⟩:∃v,vs=#[v]:=⟨vs[0],by grind⟩
  obtain⟨B,o,cap,rfl,i,w⟩:=aaC (A.2 0 _ _ rfl rfl);have z:∀g,RowKit.Below w0.heap.size w0 g->Calls Tryz.prog 233 #[Up t.kind t.int t.Ic ⟨t.text.toArray⟩] g λe w'=>e=.returned (.bool y)/\(KO B o t.kind t.int t.Ic ⟨t.text.toArray⟩ w'/\∃I,ee E.plain w0 I0 w' I):=λg q=>by
   have x:ee E.plain w0 I0 g I0:=ee.below (E:=E.plain) J m q;have K:=(ahK N E D).tr t _ y ⟨_,_,rfl,⟨rfl,rfl⟩,rfl⟩ H;refine(K.2 g I0 #[_] x.hS (λp u=>⟨x.lt p u,x.off p u⟩) ⟨rfl,λj v c hv d=>?_⟩).mono ?_
   .match j,hv,d with
    |0,hv,d=>cases hv;cases d;exact Xw t
    |j+1,hv,d=>grind
   .rintro e w' ⟨v,I,bo,rfl,b,L,_⟩;have hv:v=.bool y:=bV L;subst hv;have s2:=x.trans b;exact⟨rfl,⟨qY s2 m (w 0 M) i.1,qY s2 m (w 1 M) i.2.1,qY s2 m (w 2 M) i.2.2.1,qY s2 m (w 3 M) i.2.2.2⟩,I,s2⟩
  have C:∀(s:bP)(n:Int)(w':af)(I:aA),ee E.plain w0 I0 w' I->Eo Tryz.prog E.plain w0 I0 w' tp mi (.ret [.v (.fl (bs s)),.v (.fl (.int .i64 n))]) (.returned (.tuple #[bs s,.int .i64 n])):=λs n w' I b=>
   ⟨_,I,λ_=>Y,rfl,b,⟨_,rfl,rfl,λj r k=>by
    match j,k with
    |0,k=>cases k;exact .fl _ rfl
    |1,k=>cases k;exact .fl _ rfl
    |j+2,k=>grind⟩,(λj T B h=>by grind),(λj B h=>by grind),mX.none λ_=>rfl⟩
  cases y with
  |false=>obtain rfl:=cJ f;refine(Xv B o cap t.kind t.int t.Ic ⟨t.text.toArray⟩ w0 _ i λg q=>(z g q).mono λe w' h=>⟨h.1,h.2.2⟩).mono ?_;rintro e w' ⟨rfl,I,b⟩;exact C [] 2 w' I b|true=>obtain⟨_,d,f⟩:=bind_some f;obtain rfl:=cJ f;have d:=dy d;simp only[aP,aV,gE]at d;obtain⟨P,U,Q⟩:=d;rw[P]at i z;refine(Ur B o cap t.int t.Ic ⟨t.text.toArray⟩ w0 (λw'=>∃I,ee E.plain w0 I0 w' I) i Q (by grind) z).mono ?_;rintro e w' ⟨rfl,g,⟨I,b⟩,q⟩;exact C t.text 0 w' I (b.trans (ee.below (E:=E.plain) b.hS (λp u=>⟨b.lt p u,b.off p u⟩) q)))
end Go.Proofs.Mo
namespace Go.Proofs.Mo
open Go Go.Ev Go.X
def QF(N:Nat):bP->V aa:=λa=>(aaB N [tW.mk 3 a 0 0]).bind λb=>(l8 N a).bind λc=>bif c then O (b.2==0)else O F
abbrev ahN(N:Nat):bZ U:=⟨[.str],[.v .bool],Y,.pure (QF N)⟩
def ahO(N:Nat):Holds 114 (ahN N):=gP N f114 .leaf (cn (ahM N) (cn (Ik N) nl))
end Go.Proofs.Mo
namespace Go.Proofs.Mo
open Go Go.Ev Go.X
open Go.IntKind renaming i64->Wk
section
variable(N:Nat)
def Xx(N:Nat):Int->V Int:=λa=>bif 1<=a then bif a<=7 then O 0 else bif 8<=a then bif a<=19 then O 1 else bif a==29 then O 1 else bif 20<=a then bif a<=28 then O 2 else bif 31<=a then bif a<=34 then O 2 else bif a==30 then O 3 else O (-1)else bif a==30 then O 3 else O (-1)else bif 31<=a then bif a<=34 then O 2 else bif a==30 then O 3 else O (-1)else bif a==30 then O 3 else O (-1)else bif a==29 then O 1 else bif 20<=a then bif a<=28 then O 2 else bif 31<=a then bif a<=34 then O 2 else bif a==30 then O 3 else O (-1)else bif a==30 then O 3 else O (-1)else bif 31<=a then bif a<=34 then O 2 else bif a==30 then O 3 else O (-1)else bif a==30 then O 3 else O (-1)else bif 8<=a then bif a<=19 then O 1 else bif a==29 then O 1 else bif 20<=a then bif a<=28 then O 2 else bif 31<=a then bif a<=34 then O 2 else bif a==30 then O 3 else O (-1)else bif a==30 then O 3 else O (-1)else bif 31<=a then bif a<=34 then O 2 else bif a==30 then O 3 else O (-1)else bif a==30 then O 3 else O (-1)else bif a==29 then O 1 else bif 20<=a then bif a<=28 then O 2 else bif 31<=a then bif a<=34 then O 2 else bif a==30 then O 3 else O (-1)else bif a==30 then O 3 else O (-1)else bif 31<=a then bif a<=34 then O 2 else bif a==30 then O 3 else O (-1)else bif a==30 then O 3 else O (-1)
abbrev ahP:bZ U:=⟨[.I],[.v .I],Y,.pure (Xx N)⟩
def ahQ:Holds 112 (ahP N):=gP N f112 .leaf nl
def QG(N:Nat):Int->V aa:=λa=>aG (λ((c,_):aa×ab)=>bif c then O W else O F) λb=>bif a==7 then b (W,())else bif a==8 then b (W,())else bif a==9 then b (W,())else bif a==10 then b (W,())else bif a==12 then b (W,())else bif a==13 then b (W,())else bif a==31 then b (W,())else bif a==32 then b (W,())else bif a==33 then b (W,())else b ((a==34),())
abbrev ahR:bZ U:=⟨[.I],[.v .bool],Y,.pure (QG N)⟩
def ahS:Holds 113 (ahR N):=gP N f113 (.q (.seq Y (.q (.block (.seq (O ⟨F,[],[(4,.val .bool)],[],[]⟩) .leaf .leaf))) .leaf)) nl
def F43:cY->V aa:=λa=>(Xx N a.kind).bind λb=>bif !(b==(a.aD.length:Int))then O F else bif !(a.int==0)then bif !(a.kind==1)then O F else bif a.int==(-9223372036854775808)then O F else(QG N a.kind).bind λc=>bif c then(QF N a.text).bind λd=>O d else bif a.text==[]then O W else bif a.kind==2 then O (decide ((a.text.length:Int)<=4096))else O F else bif a.int==(-9223372036854775808)then O F else(QG N a.kind).bind λe=>bif e then(QF N a.text).bind λf=>O f else bif a.text==[]then O W else bif a.kind==2 then O (decide ((a.text.length:Int)<=4096))else O F
abbrev K43:bZ U:=⟨[cU],[.v .bool],Y,.pure (F43 N)⟩
def G43:Holds 43 (K43 N):=gP N f43 .leaf (cn (ahQ N) (cn (ahS N) (cn (ahO N) nl)))
def F42:Int×(V Nat)×oF×(Int->Hp->V (Int×Hp))->Hp->V (Int×Hp):=λ(b,c,a2,j) h=>
 c.bind λi1=>
 (h.nX[i1]?).bind λk=>
 bif !(b==k)then O (0,h)
 else
  bif (a2.aj.length:Int)<=b then O (0,h)
  else
   (ax a2.aj b).bind λl=>
   (F43 N l).bind λm=>
   bif !m then O (0,h)
   else
    c.bind λn=>
    (h.nX[n]?).bind λo=>
    c.bind λf=>
    (h.nX[f]?).bind λu=>
    cw {h with nX:=h.nX.set f (Wk.wrap (o+1))} λp=>
    aG (λ((q,r):Int×Hp)=>O (Wk.wrap (q+1),r)) λs=>
    (ax a2.aj b).bind λg=>
    aQ (λt(((d,e),i):(Int×Int)×Hp)=>
     bif e<g.aD.length then
      (ax g.aD e).bind λz39=>
      (j z39 i).bind λa=>
      bif a.1==0 then O (0,a.2)
      else t (((bif d<a.1 then a.1 else d),Wk.wrap (e+1)),a.2)
     else s (d,i)) N ((0,0),p)
abbrev K42:bZ U:=⟨[.I,(.ptr 9),(.cell eD),(.iC .I .I)],[.v .I],Y,.st (F42 N)⟩
def G42:Holds 42 (K42 N):=gS N f42 (.q (.q (.q (.q (.seq (O ⟨W,[],[(6,.val .I)],[],[]⟩) (.B ⟨W,[3,36,37],[(6,.val .I),(38,.val .I)],[],[]⟩ .leaf) .leaf))))) (cn (G43 N) nl)
end
end Go.Proofs.Mo
namespace Go.Proofs.Mo
open Go Go.Ev Go.X
section
def Nl(N:Nat)(p:V Nat)(l:oF):Nat->Int->Hp->V (Int×Hp)
 |0=>λ_ _=>Y|n+1=>λi h=>F42 N (i,p,l,Nl N p l n) h
variable(N:Nat)
def Ut:oF->Hp->V (Int×Hp):=λb h=>
 bif 256<(b.aj.length:Int)then O (4,h)else
 cw {h with nX:=h.nX++[0]} λc=>
 (O h.nX.length).bind λi2=>
 (c.nX[i2]?).bind λg=>
 cw {c with nX:=c.nX.set i2 0} λd=>
 (Nl N (O h.nX.length) b N 0 d).bind λa=>
 bif a.1==0 then O (80,a.2)else
 (O h.nX.length).bind λe=>
 (a.2.nX[e]?).bind λf=>
 bif !(f==(b.aj.length:Int))then O (80,a.2)else
 bif 32<a.1 then O (4,a.2)else O (0,a.2)
abbrev It:Ty:=Tx
abbrev Pc:Ty:=.ptr Kx
noncomputable def aaD (N:Nat) (s:S U.C):V (Int->Hp->V (Int×Hp)):=match s.bG 3,s.bG 1 with
 |.val t p,.dF a l 0=>match er t Pc p,er a It l with
  |some p,O l=>O (Nl N p l N)|_,_=>Y
 |_,_=>Y
noncomputable def Nn:bT:=f17.body.getD .skip
noncomputable abbrev Xy (N:Nat):gy U:=XB N []
noncomputable abbrev acF (N:Nat) {α:Type}:S8 U α:=Us (Xy N) [(1,998),(3,Kx)] [.leaf,.leaf,.leaf] Nn 4 10 aI aI (aaD N) .leaf
def ahT(N:Nat)(x:HL U.C [It])(h:U.C 0):JY [It] [.v aI] Y (Xy N) f17.results.toList (acF N) x h=Ut N x h:=ap
def KP{E:cd}(b:oN E)(N:Nat)(p:V Nat)(l:oF)(B:Nat):∀n,j7 (U:=U) PP E TT (.iC aI aI) (Nl N p l n) (ll B 42 [enc TT Pc p,enc TT (.cell It) l] (n+1))
 |0=>⟨42,_,rfl,λx h y c a=>by cases a⟩
 |n+1=>⟨42,_,rfl,λx h y c a f d A Vloc e=>by obtain⟨_,rfl⟩:=d;exact(G42 N E b).tr (x,p,l,Nl N p l n) h _ y c A Vloc ⟨_,_,rfl,⟨rfl,rfl⟩,_,_,rfl,⟨rfl,rfl⟩,_,_,rfl,⟨rfl,rfl⟩,_,_,rfl,KP b N p l B n,rfl⟩ e a⟩
theorem Xz{E:cd}(m:oN E){N n:Nat}(w:4<n){X:gy U}{f:S U.C}{q1:St}{φ:Int->Hp->V (Int×Hp)}(g:aU PP E TT X f q1)(h:aaD N f=O φ):
  ∃b Mloc,b.length=[3,1].length/\(∀(j t:Nat),[3,1][j]?=O t->t<n/\t≠4/\∃av,b[j]?=O av/\q1.r t=.val av)/\∀B,j7 (U:=U) PP E TT (.iC aI aI) φ (ll B 42 b Mloc):=by
 unfold aaD at h;split at h
 .rename_i t p x l o q;split at h
  .rename_i y z r s;obtain⟨e,rfl⟩:=w9 r;subst e;obtain⟨e,rfl⟩:=w9 s;subst e;simp only[aN]at h;subst h;have c:=g.ct 3;have d:=g.ct 1;rw[o]at c;rw[q]at d;generalize A:q1.r 3=u at c;generalize v:q1.r 1=C at d;cases c with
   |val _ _ _ av k hv=>
    cases d with
    |dF _ _ _ D=>
     obtain⟨_,rfl⟩:=hv;have G:u=.val (enc TT Pc p):=by
      change V Nat at p;cases p with
      |none=>exact dk k|some i=>exact nU k
     refine⟨[enc TT Pc p,enc TT (.cell It) l],N+1,rfl,λj t a=>?_,λB=>KP m N p l B N⟩;match j,a with
     |0,a=>grind|1,a=>cases a;exact ⟨M,b9,_,rfl,by rw[v];rfl⟩
     |j+2,a=>grind
  grind
 grind
noncomputable def aaE (i j:Nat):aC:=match IP (eA i Nn)with|.region _ ops _=>ops.getD j default|_=>default
theorem ahU(N:Nat)(E:cd)(a:oN E):nu (U:=U) PP E TT 17 [It] [.v aI] Y (.st (Ut N)):=by have b:∀E:cd,(∀i,E.ro i=Y)->bJ PP E TT (Xy N):=λE a=>sh SS.zM SS.ak a .nil;refine CV SS.L (X:=Xy N) (ex:=acF N) (fn:=f17) (c:=Nn) (b E a.ro) (by simp_all) ap ap b9 ap (λA d w0 I0 sB r kx Zloc g j s k q Q l h m n=>?_) (ahT N);obtain⟨w,z,o,p,t⟩:=uY (P:=PP) (e:=121) ap;exact QH SS.L SS.mo g (λ_=>rfl) j (f:=42) (i1:=4) (i2:=5) (e:=121) (o1:=aaE 3 0) (o2:=aaE 4 0) (o3:=aaE 4 1) (ts:=[3,1]) ap o p t ap ap ap ap ap ap ap ap ap ap b9 b9 b9 (λx q1 φ u v=>Xz (oN.bX a A d) b9 u v) ap s k q Q l h m n
def F0{x:AV}(h:∀c∈x.cells,c.zN=W)(a:x.isAgg=W):x.zN=W:=by
 cases x with
 |agg cs=>exact pk h|_=>cases a
def QI(y:cY):(enc TT w8 y).zN=W:=by have b:(enc TT w8 y).cells=[.fl (.int .i64 y.kind),.fl (bs y.text),.fl (.int .i64 y.int),.sl (y.aD.map (enc TT aI))]:=rfl;refine F0 (λc a=>?_) rfl;rw[b]at a;refine lm (l:=[.fl (.int .i64 y.kind),.fl (bs y.text),.fl (.int .i64 y.int),.sl (y.aD.map (enc TT aI))]) ?_ c a;simp only[sk,AV.zN,lD,Bool.and_true];exact pk λv hv=>by obtain ⟨n,_,rfl⟩:=gC.1 hv;rfl
def XA(y:oF):(enc TT It y).zN=W:=by
 have b:(enc TT It y).cells=[.sl (y.aj.map (enc TT w8))]:=by show(AV.agg (TT.cl 24 y)).cells=_;rw[show TT.cl 24 y=jZ TT (UF 24) (UU 24 y)from SS.L.cells 24 y];rfl
 refine F0 (λc a=>?_) rfl;rw[b]at a;refine lm (l:=[.sl (y.aj.map (enc TT w8))]) ?_ c a;simp only[sk,AV.zN,Bool.and_true];exact pk λv hv=>by obtain ⟨n,_,rfl⟩:=gC.1 hv;exact QI n
def F17:oF->V Int:=λl=>(Ut N l Ig).map Prod.fst
abbrev K17:bZ U:=⟨[It],[.v aI],Y,.pure (F17 N)⟩
def G17:Holds 17 (K17 N):=λE d=>gI ap (Dl (U:=U) (ahU N E d) (h0:=Ig) Ih (λx f e a b=>by
 obtain⟨a',r,rfl,⟨_,rfl⟩,rfl⟩:=e;simp only[gD]at b;subst b;exact XA _) λy r c=>by
 simp only[db,gD]at c;subst c;rfl)
end
end Go.Proofs.Mo
