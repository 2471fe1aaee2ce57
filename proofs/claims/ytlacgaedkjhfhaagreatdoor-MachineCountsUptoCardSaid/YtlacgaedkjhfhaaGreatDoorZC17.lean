import Derived.Lib.ItoaLen
import Derived.Test.YtlacgaedkjhfhaaGreatDoorZC16
set_option linter.all false
set_option maxRecDepth 20000
open Option renaming some->O,none->Y
open Bool renaming true->W,false->F
open Go.Proofs.Tryz
noncomputable section
namespace Go.Proofs.Mo
open Go Go.Ev Go.X
variable{i:Nat}{vs:Array Jz}{v:Jz}{A:Nat->V Ob}{Vloc:Nat->tl}{e:zz}
section
def vs1{w:zI}{I:aD}{x:AV}(h:k8 w I vs.toList [x]):∃v,vs=#[v]/\cq w I v x:=by
 obtain⟨b,c⟩:=h;have a:vs.size=1:=by simpa using b
 refine⟨vs[0],?_,?_⟩
 .apply yT
  .simp[a]
  .intro j d e;have:j=0:=M;subst this;rfl
 .exact c 0 _ _ (by simp[a]) rfl
def vs2{w:zI}{I:aD}{x y:AV}(h:k8 w I vs.toList [x,y]):∃v b,vs=#[v,b]/\cq w I v x/\cq w I b y:=by
 obtain⟨e,c⟩:=h;have a:vs.size=2:=by simpa using e
 refine⟨vs[0],vs[1],?_,?_,?_⟩
 .apply yT
  .simp[a]
  .intro j d f;match j,d with
   |0,_=>rfl|1,_=>rfl
   |j+2,d=>omega
 .exact c 0 _ _ (by simp[a]) rfl
 .exact c 1 _ _ (by simp[a]) rfl
def lA{w:zI}{I:aD}{off:Nat}(h:cq w I v (.ptr i off)):∃B,v=.pointer (O ⟨B,off,Y⟩)/\I.ar i=O B:=by
 generalize a:AV.ptr i off=x at h;cases h with
 |ptr i off B b=>cases a;exact ⟨B,rfl,b⟩
 |_=>cases a
def Uv{w:zI}{I:aD}{f:JC}{x:AV}(h:cq w I v (.fn f [x])):∃c,v=.func (.func f) #[] #[c]/\cq w I c x:=by
 generalize b:AV.fn f [x]=y at h;cases h with
 |fn g vs caps d e=>cases b;obtain⟨c,rfl,i⟩:=vs1 (w:=w) (I:=I) (vs:=vs) (x:=x) ⟨by simpa using d,λj v a hv k=>by have:=e j a k;simp only[jO]at hv;simpa[hv]using this⟩;exact⟨c,rfl,i⟩
 |_=>cases b
def p6(e:zz):Z AV:=[Bh e.lh Z5,gz TT e.qw IU,.fl (.int .u32 e.ready.done.v),.fl (.int .i32 e.ready.m.mu.vZ),.fl (.int .u32 e.ready.m.mu.ZU),gz TT e.bits ZZ,.fl (.int .i64 e.mw.v)]
def RA(p:V Nat)(k:Nat):(Bh p k).cells=[Bh p k]:=by cases p<;>rfl
def RB(p:V (Nat×Nat))(k:Nat):(gz TT p k).cells=[gz TT p k]:=by cases p<;>rfl
def RC(v:Jz):(AV.fl v).cells=[.fl v]:=rfl
def Li(cs:Z AV):(AV.agg cs).cells=cs:=rfl
def ju(n:Nat)(x:CC n):TT.cl n x=ka TT (UF n) (UU n x):=SS.L.cells n x
def IY(e:zz):(enc TT Lf e).cells=p6 e:=by show TT.cl ZY e=_;rw[ju];simp only[UF,UU,ka,wD,wC,enc,RA,RB,RC,Li,ju,zK,oy,qR];rfl
def RD(e:zz)(n:Int):zz:={e with mw:={e.mw with v:=n}}
def jL(e:zz)(n:Int):zz:={e with ready:={e.ready with m:={e.ready.m with mu:={e.ready.m.mu with vZ:=n}}}}
def uc(e:zz)(n:Int):zz:={e with ready:={e.ready with done:={e.ready.done with v:=n}}}
def Lj{h:Hp}(a:eY (U:=U) TT bM h A Vloc)(b:h.dU[i]?=O e):A (dI qz i)=O (.cells (p6 e)):=by rw[<-IY];exact a.ZR (k:=qz) cd (t:=Lf) (l:=h.dU) rfl b
def GA{h:Hp}(a:eY (U:=U) TT bM h A Vloc){e':zz}(b:h.dU[i]?=O e):eY (U:=U) TT bM ({h with dU:=h.dU.set i e'}:Hp) (aa A (dI qz i) (O (.cells (p6 e')))) Vloc:=by rw[<-IY];exact a.XN SS.L (k:=qz) cd (t:=Lf) (l:=h.dU) rfl b (y:=e') rfl
variable(N:Nat)
def Uw(N:Nat):Nat×Int->Hp->V (Int×Hp):=λ(i,d) h=>(h.dU[i]?).bind λe=>O (IntKind.i64.wrap (e.mw.v+d),{h with dU:=h.dU.set i (RD e (IntKind.i64.wrap (e.mw.v+d)))})
abbrev acY:b7 U:=⟨[.zb qz 6,.int .i64],[.v ahr],Y,.st (Uw N)⟩
def acZ:Holds 249 (acY N):=λE H=>hp au (by have l:Enters PP 249:=Go.Proofs.enters_of (fn:=f249) au au (c:=f249.body.getD .skip) au;rintro⟨i,(d:Int)⟩ h I r h' A Vloc m b n;obtain⟨a,_,rfl,⟨_,rfl⟩,J,_,rfl,⟨_,rfl⟩,rfl⟩:=m;obtain⟨e,f,o⟩:=bind_some n;obtain⟨p,q⟩:=th (cr o);subst p q;refine⟨_,Vloc,GA b f,l,λw0 I0 vs s t u w=>?_⟩;obtain⟨K,L,rfl,x,y⟩:=vs2 w;obtain⟨B,rfl,g⟩:=lA x;obtain rfl:=cb y;have h0:=xB.start s t u;have j:=Lj b f;obtain⟨z,C⟩:=h0.xC (k:=6) j g (v:=.int .i64 e.mw.v) rfl;refine(XX ⟨B,6,Y⟩ e.mw.v d _ rfl w0 z C).mono λP Q D=>?_;obtain⟨rfl,rfl⟩:=D;have G:=h0.Ni (λ_=>rfl) (k:=6) j g (gl 6) (.int .i64 (IntKind.i64.wrap (e.mw.v+d))) rfl;exact xB.post G (rs:=[.v (.fl (.int .i64 (IntKind.i64.wrap (e.mw.v+d))))]) (.fl _ rfl))
def Ux:Nat×V Nat->Hp->V (xW×Hp):=λ(i,p) h=>(h.dU[i]?).bind λe=>bif !(e.ready.done.v==0)then O ((),h)else
 (cR (e.ready.m.mu.vZ==0)).bind λ_=>(OI N p {h with dU:=h.dU.set i (jL e 1)}).bind λy=>
 (y.2.dU[i]?).bind λa=>(cR (a.ready.done.v==0&&a.ready.m.mu.vZ==1)).bind λ_=>O ((),{y.2 with dU:=y.2.dU.set i (jL (uc a 1) 0)})
abbrev ac0:b7 U:=⟨[.zb qz 2,.Mm 251 (.cell (.ptr qz))],[],Y,.st (Ux N)⟩
def ac1:Holds 250 (ac0 N):=λE d0=>hp au (by
 have K:Enters PP 250:=Go.Proofs.enters_of (fn:=f250) au au (c:=f250.body.getD .skip) au;rintro⟨i,p⟩ h D0 r h' A Vloc e0 w f0;obtain⟨a,_,rfl,⟨_,rfl⟩,E0,_,rfl,⟨_,rfl⟩,rfl⟩:=e0;obtain⟨e,L,s⟩:=bind_some f0;have n:=Lj w L;cases t:(!(e.ready.done.v==0))with
 |true=>rw[t]at s;obtain⟨x,d⟩:=th (cr s);subst x d;refine⟨A,Vloc,w,K,λw0 I0 vs y z C D=>?_⟩;obtain⟨g0,P,rfl,G,Q⟩:=vs2 D;obtain⟨B,rfl,f⟩:=lA G;have h0:=xB.start y z C;obtain⟨b,R⟩:=h0.xC (k:=2) n f (v:=.int .u32 e.ready.done.v) rfl;refine(Uu ⟨B,2,Y⟩ _ (by simpa using t) P w0 b).mono λS T o=>?_;obtain⟨rfl,rfl⟩:=o;exact xB.post h0 (rs:=[]) ⟨#[],rfl,rfl,λj r l=>(by simp at l)⟩|false=>
  rw[t]at s;obtain⟨_,i0,j0⟩:=bind_some s;obtain⟨⟨u,l0⟩,hF,m0⟩:=bind_some j0;obtain⟨d,U,n0⟩:=bind_some m0;obtain⟨_,q,o0⟩:=bind_some n0;obtain⟨x,p0⟩:=th (cr o0);subst x p0;have q0:e.ready.m.mu.vZ=0:=by simpa using dp i0
  have r0:e.ready.done.v=0:=by simpa using t
  have q:=dp q;simp only[aI,gH]at q;have s0:=GA (e':=jL e 1) w L;obtain⟨H,X,a0,t0⟩:=(acX N E d0).sy p _ [_] u l0 _ Vloc ⟨_,_,rfl,⟨rfl,rfl⟩,rfl⟩ s0 hF;have I:=Lj a0 U;refine⟨_,X,GA a0 U,K,λw0 I0 vs y z C D=>?_⟩;obtain⟨g0,P,rfl,G,Q⟩:=vs2 D;obtain⟨B,rfl,f⟩:=lA G;obtain⟨pl,rfl,u0⟩:=Uv Q;have h0:=xB.start y z C;obtain⟨b,R⟩:=h0.xC (k:=2) n f (v:=.int .u32 e.ready.done.v) rfl;obtain⟨b0,v0⟩:=h0.xC (k:=3) n f (v:=.int .i32 e.ready.m.mu.vZ) rfl;rw[r0]at b;rw[q0]at b0;have x0:=h0.Ni (λ_=>rfl) (k:=3) n f (by show 3<7;decide) (.int .i32 1) rfl;have y0:dD w0 (w0.setCell ⟨B,3,Y⟩ (.int .i32 1)) I0 I0:=h0.Ui n f 3 _;refine(Z9 B 2 pl w0 (λw'=>∃I',xB PP (E.dn A I0) w0 I0 H X w' I'/\I'.ar (dI qz i)=O B) b b0 R v0 ?_ ?_).mono λS T o=>?_
  .refine (x0.call (vs:=#[pl]) t0 ⟨rfl,λj v c hv b=>?_⟩).mono λS T o=>?_
   .match j,hv,b with
    |0,hv,b=>simp at hv b;subst hv b;exact u0.mono y0
   .obtain ⟨v,I',bo,rfl,m,g,A0⟩:=o;obtain⟨vs,rfl,B0,_⟩:=A0;exact⟨by rw[Tq B0],I',m,g.ar _ _ f⟩
  .rintro w' ⟨I',m,g⟩;have q1:=m.xC (k:=2) I g (v:=.int .u32 d.ready.done.v) rfl;have J:=m.xC (k:=3) I g (v:=.int .i32 d.ready.m.mu.vZ) rfl;rw[q.1]at q1;rw[q.2]at J;exact⟨q1.1,J.1,q1.2,J.2⟩
  .obtain ⟨rfl,G0,⟨I',m,g⟩,rfl⟩:=o;have C0:=m.drew.Ni (λ_=>rfl) (k:=2) I g (by show 2<7;decide) (.int .u32 1) rfl;have c0:=C0.Ni (λ_=>rfl) (k:=3) (cs:=(p6 d).set 2 (.fl (.int .u32 1))) aE g (by show 3<7;decide) (.int .i32 0) rfl;have:aa (aa H (dI qz i) (O (.cells ((p6 d).set 2 (.fl (.int .u32 1)))))) (dI qz i) (O (.cells (((p6 d).set 2 (.fl (.int .u32 1))).set 3 (.fl (.int .i32 0)))))=aa H (dI qz i) (O (.cells (p6 (jL (uc d 1) 0)))):=by
    funext j;by_cases l:j=dI qz i
    .subst l;simp only[bK];rfl
    .simp only[aJ _ _ l]
   rw[this]at c0;exact xB.post c0 (rs:=[]) ⟨#[],rfl,rfl,λj r l=>(by simp at l)⟩)
end
end Go.Proofs.Mo
namespace Go.Proofs.Mo
open Go Go.Ev Go.X
open Go.IntKind renaming i64->Wk
section
variable(N:Nat)
def Uy:(Z Int)×(Int->Hp->V (tl×Hp))->Hp->V (Int×Hp):=λ(c,e) h=>aS (λ((_,f):xW×Hp)=>O ((-1),f)) λg=>aZ (λi((a,d):Int×Hp)=>bif a<c.length then(aR c a).bind λj=>(e j d).bind λb=>bif b.1 then O (a,b.2)else i (Wk.wrap (a+1),b.2)else g ((),d)) N (0,h)
abbrev ac2:b7 U:=⟨[ah6,(.qu .I .bool)],[.v .I],Y,.st (Uy N)⟩
def ac3:Holds 272 (ac2 N):=gS N f272 (.q (.seq (O ⟨W,[],[],[],[]⟩) (.q (.block (.loop ⟨W,[0,1,7],[(8,.val .I)],[],[]⟩ .aC))) .aC)) nl
def Uz:(Z Int)×(Int->Hp->V (tl×Hp))->Hp->V (tl×Hp):=λ(b,c) h=>(Uy N (b,c) h).bind λa=>O ((decide (0<=a.1)),a.2)
abbrev ac4:b7 U:=⟨[ah6,(.qu .I .bool)],[.v .bool],Y,.st (Uz N)⟩
def ac5:Holds 261 (ac4 N):=gS N f261 .aC (cn (ac3 N) nl)
def UB(N:Nat):Int×(Int->Hp->V (tl×Hp))->Hp->V (tl×Hp):=λ(b,c) h=>(c b h).bind λa=>O ((!a.1),a.2)
abbrev ac6:b7 U:=⟨[.I,(.jR .I .bool)],[.v .bool],Y,.st (UB N)⟩
def ac7:Holds 262 (ac6 N):=gS N f262 .aC nl
def UC:Int×(V Nat)×(Z kI)×(Int->Hp->V (tl×Hp))->Hp->V (tl×Hp):=λ(a,b,c,f) h=>
 b.bind λg=>
 (h.CW[g]?).bind λi=>
 bif !(a==i)then O (F,h)
 else
  bif (c.length:Int)<=a then O (F,h)
  else
   b.bind λj=>
   (h.CW[j]?).bind λk=>
   b.bind λd=>
   (h.CW[d]?).bind λp=>
   bw {h with CW:=h.CW.set d (Wk.wrap (k+1))} λl=>
   (aR c a).bind λm=>
   (Uz N (m.args,λn o=>UB N (n,f) o) l).bind λe=>
   O ((!e.1),e.2)
abbrev ac8:b7 U:=⟨[.I,(.ptr 9),(.cell ahF),(.jR .I .bool)],[.v .bool],Y,.st (UC N)⟩
def ac9:Holds 260 (ac8 N):=gS N f260 .aC (cn (ac5 N) (cn (ac7 N) nl))
end
end Go.Proofs.Mo
namespace Go.Proofs.Mo
open Go Go.Ev Go.X
section
def IZ(N:Nat)(p:V Nat)(l:Z kI):Nat->Int->Hp->V (tl×Hp)
 |0=>λ_ _=>Y|n+1=>λi h=>UC N (i,p,l,IZ N p l n) h
variable(N:Nat)
def I3:Z kI->Hp->V (tl×Hp):=λc h=>
 bw {h with CW:=h.CW++[0]} λb=>
 (O h.CW.length).bind λi2=>
 (b.CW[i2]?).bind λg=>
 bw {b with CW:=b.CW.set i2 0} λd=>
 (IZ N (O h.CW.length) c N 0 d).bind λa=>
 bif a.1 then
  (O h.CW.length).bind λe=>
  (a.2.CW[e]?).bind λf=>
  O (f==(c.length:Int),a.2)
 else O (F,a.2)
abbrev Ci:Ty:=.aq zA
abbrev UD:Ty:=.ptr Rt
noncomputable def Nl (N:Nat) (s:S U.C):V (Int->Hp->V (tl×Hp)):=match s.bQ 3,s.bQ 1 with
 |.val t p,.dJ a l 0=>match eh t UD p,eh a Ci l with
  |some p,O l=>O (IZ N p l N)|_,_=>Y
 |_,_=>Y
noncomputable def zC:F4:=f231.body.getD .skip
noncomputable abbrev RE (N:Nat):gj U:=XB N []
def aaa(N:Nat)(x:HL U.C [Ci])(h:U.C 0):MY [Ci] [.v .bool] Y (RE N) f231.results.toList (IM (RE N) [(1,998),(3,Rt)] 2 zC 4 5 ahr .bool (Nl N) .aC) x h=I3 N x h:=au
def Nn{E:cm}(b:B8 E)(N:Nat)(p:V Nat)(l:Z kI)(B:Nat):∀n,kr (U:=U) PP E TT (.jR ahr .bool) (IZ N p l n) (oH B 260 [enc TT UD p,enc TT (.cell Ci) l] (n+1))
 |0=>⟨260,_,rfl,λx h y h' a=>by cases a⟩
 |n+1=>⟨260,_,rfl,λx h y h' a e c A Vloc d=>by obtain⟨_,rfl⟩:=c;exact(ac9 N E b).sy (x,p,l,IZ N p l n) h _ y h' A Vloc ⟨_,_,rfl,⟨rfl,rfl⟩,_,_,rfl,⟨rfl,rfl⟩,_,_,rfl,⟨rfl,rfl⟩,_,_,rfl,Nn b N p l B n,rfl⟩ d a⟩
def I4{a b:Ty}{x:bL CC a}{y:bL CC b}(h:eh a b x=O y):∃e:a=b,y=e▸x:=bN h
def RF{E:cm}(m:B8 E){N n:Nat}(y:4<n){X:gj U}{f:S U.C}{q1:St}{φ:Int->Hp->V (tl×Hp)}(g:aX PP E TT X f q1)(h:Nl N f=O φ):
  ∃b Mloc,b.length=[3,1].length/\(∀(j t:Nat),[3,1][j]?=O t->t<n/\t≠4/\∃av,b[j]?=O av/\q1.r t=.val av)/\∀B,kr (U:=U) PP E TT (.jR ahr .bool) φ (oH B 260 b Mloc):=by
 unfold Nl at h;split at h
 .rename_i t p z l o q;split at h
  .rename_i A l' r s;obtain⟨e,rfl⟩:=I4 r;subst e;obtain⟨e,rfl⟩:=I4 s;subst e;simp only[ax]at h;subst h;have c:=g.cu 3;have d:=g.cu 1;rw[o]at c;rw[q]at d;generalize u:q1.r 3=v at c;generalize w:q1.r 1=C at d;cases c with
   |val _ _ _ av k hv=>
    cases d with
    |dJ _ _ _ D=>
     obtain⟨_,rfl⟩:=hv;have x:v=.val (enc TT UD p):=by
      change V Nat at p;cases p with
      |none=>exact dF k|some i=>exact pd k
     refine⟨[enc TT UD p,enc TT (.cell Ci) l],N+1,rfl,λj t a=>?_,λB=>Nn m N p l B N⟩;match j,a with
     |0,a=>cases a;exact ⟨M,cd,_,rfl,u.trans x⟩
     |1,a=>cases a;exact ⟨M,cd,_,rfl,by rw[w];rfl⟩
     |j+2,a=>simp at a
  .cases h
 .cases h
noncomputable def RG (i j:Nat):JB:=match OE (me i zC)with|.region _ a _=>a.getD j default|_=>default
def aab(N:Nat)(E:cm)(a:B8 E):nY (U:=U) PP E TT 231 [Ci] [.v .bool] Y (.st (I3 N)):=by have b:∀E:cm,(∀i,E.ro i=Y)->bP PP E TT (RE N):=λE a=>rJ SS.yG SS.ak a .nil;refine Gc SS.L (X:=RE N) (ex:=IM (RE N) [(1,998),(3,Rt)] 2 zC 4 5 ahr .bool (Nl N) .aC) (fn:=f231) (c:=zC) (b E a.ro) au au au cd au (λA d w0 I0 sB r kx Zloc g j s k q Q l h m n=>?_) (aaa N);obtain⟨w,z,o,p,t⟩:=B7 (P:=PP) (e:=326) au;exact IN SS.L SS.mo g (λ_=>rfl) j (f:=260) (i1:=2) (i2:=3) (e:=326) (o1:=RG 2 0) (o2:=RG 3 0) (o3:=RG 3 1) (ts:=[3,1]) au o p t au au au au au au au au au au cd cd cd (λx q1 φ u v=>RF (B8.dn a A d) cd u v) au s k q Q l h m n
def UE:Z kI->V tl:=λl=>(I3 N l IV).map Prod.fst
abbrev ada:b7 U:=⟨[Ci],[.v .bool],Y,.pure (UE N)⟩
def adb:Holds 231 (ada N):=λE d=>hp au (K9 (U:=U) (aab N E d) (h0:=IV) Gy (λx f e a b=>by
 obtain⟨a',r,rfl,⟨_,rfl⟩,rfl⟩:=e;simp only[iC]at b;subst b;show ua (List.map (enc TT zA) x)=W;refine vW λv hv=>?_;obtain⟨y,_,rfl⟩:=dP.1 hv;show ua (enc TT zA y).cells=W;have:(enc TT zA y).cells=[.fl (.int .i64 y.kind),.fl (bs y.name),.fl (.int .i64 y.num),.sl (y.args.map (enc TT ahr))]:=rfl;rw[this];simp only[ua,AV.Dl,oO,Bool.and_true];exact vW λv hv=>by obtain ⟨n,_,rfl⟩:=dP.1 hv;rfl) λy r c=>by
 simp only[cL,iC]at c;subst c;rfl)
end
end Go.Proofs.Mo
namespace Go.Proofs.Mo
open Go Go.Ev Go.X
open Go.IntKind renaming i64->Wk
section
variable(N:Nat)
def qJ(N:Nat):tl×gW->V (Except kJ xW):=λ(a,b)=>bif !a then O (Except.error (kJ.mk b))else O (Except.ok ())
abbrev aac:b7 U:=⟨[.bool,ahN],[],(O (250,ahZ)),.pure (qJ N)⟩
def Lk:Holds 142 (aac N):=gP N f142 .aC nl
def RH(N:Nat):Int->V tl:=λa=>bif 65<=a then bif a<=90 then O W else bif 97<=a then O (decide (a<=122))else O F else bif 97<=a then O (decide (a<=122))else O F
abbrev ade:b7 U:=⟨[ain],[.v .bool],Y,.pure (RH N)⟩
def adf:Holds 222 (ade N):=gP N f222 .aC nl
def nC:cI->V tl:=λb=>bif (b.length:Int)==0 then O F else bif 32<(b.length:Int)then O F else(aR b 0).bind λe=>(RH N (e.toNat:Int)).bind λf=>bif !f then O F else aS (λ(_:xW×xW)=>O W) λg=>aZ (λd((a,_):Int×xW)=>bif a<b.length then(aR b a).bind λc=>(RH N (c.toNat:Int)).bind λi=>bif !i then bif (c.toNat:Int)<48 then bif !((c.toNat:Int)==95)then O F else d (Wk.wrap (a+1),())else bif 57<(c.toNat:Int)then bif !((c.toNat:Int)==95)then O F else d (Wk.wrap (a+1),())else d (Wk.wrap (a+1),())else d (Wk.wrap (a+1),())else g ((),())) N (0,())
abbrev aad:b7 U:=⟨[.str],[.v .bool],Y,.pure (nC N)⟩
def I5:Holds 143 (aad N):=gP N f143 (.q (.q (.J (.W [0,20] [(21,.val .I)]) .aC))) (cn (adf N) nl)
def XY:Int×Int×(Z cI)×((Int×cI)->V (Int×Int))->V (Except kJ xW):=λ(c,e,d,f)=>aZ (λg((a,_):Int×xW)=>bif a<d.length then(aR d a).bind λi=>(qJ N (decide (a<e),gW.mk c a 0 4)).bind λj=>zd j (λk=>O (Except.error k)) λn=>(f (a,i)).bind λb=>(qJ N (b.2==0,gW.mk c a b.1 b.2)).bind λl=>zd l (λm=>O (Except.error m)) λo=>g (Wk.wrap (a+1),())else O (Except.ok ())) N (0,())
abbrev aae:b7 U:=⟨[.I,.I,aib,(.fn (.gn .I .str) aic)],[],(O (250,ahZ)),.pure (XY N)⟩
def adg:Holds 144 (aae N):=gP N f144 (.W [0,1,3,12,13] [(14,.val .I)]) (cn (Lk N) nl)
def UH:(Z cI)×cI->V Int:=λ(b,c)=>aS (λ(_:xW×xW)=>O (-1)) λd=>aZ (λe((a,_):Int×xW)=>bif a<b.length then(aR b a).bind λf=>bif c==f then O a else e (Wk.wrap (a+1),())else d ((),())) N (0,())
abbrev adh:b7 U:=⟨[aib,.str],[.v .I],Y,.pure (UH N)⟩
def adi:Holds 169 (adh N):=gP N f169 (.q (.J (.W [0,1,7] [(8,.val .I)]) .aC)) nl
def XZ:(Z cI)×cI->V tl:=λ(a,b)=>(UH N (a,b)).bind λc=>O (decide (0<=c))
abbrev K59:b7 U:=⟨[aib,.str],[.v .bool],Y,.pure (XZ N)⟩
def G59:Holds 59 (K59 N):=gP N f59 .aC (cn (adi N) nl)
def OK(N:Nat):tl->V Int:=λa=>bif a then O 40 else O 0
abbrev adj:b7 U:=⟨[.bool],[.v .I],Y,.pure (OK N)⟩
def aaf:Holds 146 (adj N):=gP N f146 .aC nl
def UI:Int×cI×cW->V (Int×Int):=λ(a,b,c)=>(nC N b).bind λd=>bif !d then O (0,2)else bif b==c.name then(OK N W).bind λe=>O (0,e)else(cR (decide (0<=a)&&decide (a.toNat<=c.pZ.length))).bind λ_=>(XZ N (c.pZ.take a.toNat,b)).bind λf=>(OK N f).bind λg=>O (0,g)
abbrev aag:b7 U:=⟨[.I,.str,ahO],[.v .I,.v .I],Y,.pure (UI N)⟩
def adk:Holds 145 (aag N):=gP N f145 .aC (cn (G59 N) (cn (I5 N) (cn (aaf N) nl)))
def Y1:Int×Int×(Z dt)×((Int×dt)->V (Int×Int))->V (Except kJ xW):=λ(c,e,d,f)=>aZ (λg((a,_):Int×xW)=>bif a<d.length then(aR d a).bind λi=>(qJ N (decide (a<e),gW.mk c a 0 4)).bind λj=>zd j (λk=>O (Except.error k)) λn=>(f (a,i)).bind λb=>(qJ N (b.2==0,gW.mk c a b.1 b.2)).bind λl=>zd l (λm=>O (Except.error m)) λo=>g (Wk.wrap (a+1),())else O (Except.ok ())) N (0,())
abbrev aah:b7 U:=⟨[.I,.I,ahC,(.fn (.gn .I ahw) aic)],[],(O (250,ahZ)),.pure (Y1 N)⟩
def adl:Holds 147 (aah N):=gP N f147 (.W [0,1,3,12,13] [(14,.val .I)]) (cn (Lk N) nl)
def X6:(Z fH)×(fH->V tl)->V Int:=λ(b,c)=>aS (λ(_:xW×xW)=>O (-1)) λd=>aZ (λe((a,_):Int×xW)=>bif a<b.length then(aR b a).bind λf=>(c f).bind λg=>bif g then O a else e (Wk.wrap (a+1),())else d ((),())) N (0,())
abbrev adm:b7 U:=⟨[ahW,(.fn ahJ .bool)],[.v .I],Y,.pure (X6 N)⟩
def adn:Holds 234 (adm N):=gP N f234 (.q (.J (.W [0,1,7] [(8,.val .I)]) .aC)) nl
def OL:(Z fH)×(fH->V tl)->V tl:=λ(a,b)=>(X6 N (a,b)).bind λc=>O (decide (0<=c))
abbrev ado:b7 U:=⟨[ahW,(.fn ahJ .bool)],[.v .bool],Y,.pure (OL N)⟩
def aai:Holds 171 (ado N):=gP N f171 .aC (cn (adn N) nl)
def X7:(Z dt)×(dt->V tl)->V Int:=λ(b,c)=>aS (λ(_:xW×xW)=>O (-1)) λd=>aZ (λe((a,_):Int×xW)=>bif a<b.length then(aR b a).bind λf=>(c f).bind λg=>bif g then O a else e (Wk.wrap (a+1),())else d ((),())) N (0,())
abbrev adp:b7 U:=⟨[ahC,(.fn ahw .bool)],[.v .I],Y,.pure (X7 N)⟩
def adq:Holds 257 (adp N):=gP N f257 (.q (.J (.W [0,1,7] [(8,.val .I)]) .aC)) nl
def UJ:(Z dt)×(dt->V tl)->V tl:=λ(a,b)=>(X7 N (a,b)).bind λc=>O (decide (0<=c))
abbrev adr:b7 U:=⟨[ahC,(.fn ahw .bool)],[.v .bool],Y,.pure (UJ N)⟩
def ads:Holds 223 (adr N):=gP N f223 .aC (cn (adq N) nl)
def X8(N:Nat):dt×dt->V tl:=λ(a,b)=>O (a.name==b.name)
abbrev adt:b7 U:=⟨[ahw,(.cell ahw)],[.v .bool],Y,.pure (X8 N)⟩
def adu:Holds 224 (adt N):=gP N f224 .aC nl
def X9:(Z eR)×(eR->V tl)->V Int:=λ(b,c)=>aS (λ(_:xW×xW)=>O (-1)) λd=>aZ (λe((a,_):Int×xW)=>bif a<b.length then(aR b a).bind λf=>(c f).bind λg=>bif g then O a else e (Wk.wrap (a+1),())else d ((),())) N (0,())
abbrev adv:b7 U:=⟨[ahU,(.fn ahQ .bool)],[.v .I],Y,.pure (X9 N)⟩
def adw:Holds 258 (adv N):=gP N f258 (.q (.J (.W [0,1,7] [(8,.val .I)]) .aC)) nl
def RI:(Z eR)×(eR->V tl)->V tl:=λ(a,b)=>(X9 N (a,b)).bind λc=>O (decide (0<=c))
abbrev adx:b7 U:=⟨[ahU,(.fn ahQ .bool)],[.v .bool],Y,.pure (RI N)⟩
def ady:Holds 225 (adx N):=gP N f225 .aC (cn (adw N) nl)
def UK(N:Nat):eR×eR->V tl:=λ(a,b)=>O (a.name==b.name)
abbrev adz:b7 U:=⟨[ahQ,(.cell ahQ)],[.v .bool],Y,.pure (UK N)⟩
def adA:Holds 226 (adz N):=gP N f226 .aC nl
def Ya:(Z gp)×(gp->V tl)->V Int:=λ(b,c)=>aS (λ(_:xW×xW)=>O (-1)) λd=>aZ (λe((a,_):Int×xW)=>bif a<b.length then(aR b a).bind λf=>(c f).bind λg=>bif g then O a else e (Wk.wrap (a+1),())else d ((),())) N (0,())
abbrev adB:b7 U:=⟨[ahV,(.fn ahR .bool)],[.v .I],Y,.pure (Ya N)⟩
def adC:Holds 259 (adB N):=gP N f259 (.q (.J (.W [0,1,7] [(8,.val .I)]) .aC)) nl
def RJ:(Z gp)×(gp->V tl)->V tl:=λ(a,b)=>(Ya N (a,b)).bind λc=>O (decide (0<=c))
abbrev adD:b7 U:=⟨[ahV,(.fn ahR .bool)],[.v .bool],Y,.pure (RJ N)⟩
def adE:Holds 227 (adD N):=gP N f227 .aC (cn (adC N) nl)
def UL(N:Nat):gp×gp->V tl:=λ(a,b)=>O (a.role==b.role)
abbrev adF:b7 U:=⟨[ahR,(.cell ahR)],[.v .bool],Y,.pure (UL N)⟩
def adG:Holds 228 (adF N):=gP N f228 .aC nl
def UN(N:Nat):fH×fH->V tl:=λ(a,b)=>O (a.role==b.role)
abbrev adH:b7 U:=⟨[ahJ,(.cell ahJ)],[.v .bool],Y,.pure (UN N)⟩
def adI:Holds 229 (adH N):=gP N f229 .aC nl
def UO:(Z dt)×dt->V (Int×Int):=λ(v,a)=>(nC N a.name).bind λy=>bif !y then O (0,2)else(UJ N (v,λz=>X8 N (z,a))).bind λb0=>bif b0 then O (0,40)else bif !(a.de==[])then(nC N a.de).bind λh=>bif !h then O (0,2)else bif a.de==a.name then O (0,43)else aS (λ((q,_):Int×xW)=>aS (λ((w,_):Int×xW)=>aS (λ((x,_):Int×xW)=>O (x,0)) λm0=>aZ (λA(((m,d),_):(Int×Int)×xW)=>bif d<a.ab.length then(aR a.ab d).bind λt=>bif d==32 then O (Wk.wrap (m+1),4)else(nC N t.role).bind λB=>bif !B then O (Wk.wrap (m+1),2)else(nC N t.aw).bind λC=>bif !C then O (Wk.wrap (m+1),2)else(cR (decide (0<=d)&&decide (d.toNat<=a.ab.length))).bind λ_=>(OL N (a.ab.take d.toNat,λD=>UN N (D,t))).bind λE=>bif E then O (Wk.wrap (m+1),40)else A ((Wk.wrap (m+1),Wk.wrap (d+1)),())else m0 (m,())) N ((w,0),())) λG=>aZ (λv0(((b,e),_):(Int×Int)×xW)=>bif e<a.bj.length then(aR a.bj e).bind λo=>bif e==32 then O (Wk.wrap (b+1),4)else(nC N o.role).bind λw0=>bif !w0 then O (Wk.wrap (b+1),2)else(nC N o.aw).bind λH=>bif !H then O (Wk.wrap (b+1),2)else(cR (decide (0<=e)&&decide (e.toNat<=a.bj.length))).bind λ_=>(RJ N (a.bj.take e.toNat,λI=>UL N (I,o))).bind λJ=>bif J then O (Wk.wrap (b+1),40)else bif !((Wk.wrap ((BitVec.ofInt IntKind.i64.bits o.min&&&~~~BitVec.ofInt IntKind.i64.bits 1).toNat))==0)then O (Wk.wrap (b+1),44)else bif !((Wk.wrap ((BitVec.ofInt IntKind.i64.bits o.max&&&~~~BitVec.ofInt IntKind.i64.bits 1).toNat))==0)then O (Wk.wrap (b+1),44)else v0 ((Wk.wrap (b+1),Wk.wrap (e+1)),())else G (b,())) N ((q,0),())) λK=>aZ (λL(((f,g),_):(Int×Int)×xW)=>bif g<a.bl.length then(aR a.bl g).bind λr=>bif g==32 then O (Wk.wrap (f+1),4)else(nC N r.name).bind λP=>bif !P then O (Wk.wrap (f+1),2)else(cR (decide (0<=g)&&decide (g.toNat<=a.bl.length))).bind λ_=>(RI N (a.bl.take g.toNat,λQ=>UK N (Q,r))).bind λR=>bif R then O (Wk.wrap (f+1),40)else bif r.type<1 then O (Wk.wrap (f+1),41)else bif 4<r.type then O (Wk.wrap (f+1),41)else L ((Wk.wrap (f+1),Wk.wrap (g+1)),())else K (f,())) N ((0,0),())else bif a.de==a.name then O (0,43)else aS (λ((S,_):Int×xW)=>aS (λ((T,_):Int×xW)=>aS (λ((U,_):Int×xW)=>O (U,0)) λq1=>aZ (λX(((n,i),_):(Int×Int)×xW)=>bif i<a.ab.length then(aR a.ab i).bind λu=>bif i==32 then O (Wk.wrap (n+1),4)else(nC N u.role).bind λa0=>bif !a0 then O (Wk.wrap (n+1),2)else(nC N u.aw).bind λe0=>bif !e0 then O (Wk.wrap (n+1),2)else(cR (decide (0<=i)&&decide (i.toNat<=a.ab.length))).bind λ_=>(OL N (a.ab.take i.toNat,λf0=>UN N (f0,u))).bind λh0=>bif h0 then O (Wk.wrap (n+1),40)else X ((Wk.wrap (n+1),Wk.wrap (i+1)),())else q1 (n,())) N ((T,0),())) λi0=>aZ (λl0(((c,j),_):(Int×Int)×xW)=>bif j<a.bj.length then(aR a.bj j).bind λp=>bif j==32 then O (Wk.wrap (c+1),4)else(nC N p.role).bind λo0=>bif !o0 then O (Wk.wrap (c+1),2)else(nC N p.aw).bind λu0=>bif !u0 then O (Wk.wrap (c+1),2)else(cR (decide (0<=j)&&decide (j.toNat<=a.bj.length))).bind λ_=>(RJ N (a.bj.take j.toNat,λA0=>UL N (A0,p))).bind λB0=>bif B0 then O (Wk.wrap (c+1),40)else bif !((Wk.wrap ((BitVec.ofInt IntKind.i64.bits p.min&&&~~~BitVec.ofInt IntKind.i64.bits 1).toNat))==0)then O (Wk.wrap (c+1),44)else bif !((Wk.wrap ((BitVec.ofInt IntKind.i64.bits p.max&&&~~~BitVec.ofInt IntKind.i64.bits 1).toNat))==0)then O (Wk.wrap (c+1),44)else l0 ((Wk.wrap (c+1),Wk.wrap (j+1)),())else i0 (c,())) N ((S,0),())) λC0=>aZ (λD0(((k,l),_):(Int×Int)×xW)=>bif l<a.bl.length then(aR a.bl l).bind λs=>bif l==32 then O (Wk.wrap (k+1),4)else(nC N s.name).bind λE0=>bif !E0 then O (Wk.wrap (k+1),2)else(cR (decide (0<=l)&&decide (l.toNat<=a.bl.length))).bind λ_=>(RI N (a.bl.take l.toNat,λG0=>UK N (G0,s))).bind λH0=>bif H0 then O (Wk.wrap (k+1),40)else bif s.type<1 then O (Wk.wrap (k+1),41)else bif 4<s.type then O (Wk.wrap (k+1),41)else D0 ((Wk.wrap (k+1),Wk.wrap (l+1)),())else C0 (k,())) N ((0,0),())
abbrev adJ:b7 U:=⟨[ahC,ahw],[.v .I,.v .I],Y,.pure (UO N)⟩
def adK:Holds 149 (adJ N):=gP N f149 (.q (.q (.q (.seq (O ⟨F,[3],[(6,.val .I)],[],[]⟩) (.W [3,39,40] [(6,.val .I),(41,.val .I)]) (.seq (O ⟨F,[3],[(6,.val .I)],[],[]⟩) (.W [3,78,79] [(6,.val .I),(80,.val .I)]) (.seq (O ⟨F,[],[(6,.val .I)],[],[]⟩) (.W [3,125,126] [(6,.val .I),(127,.val .I)]) .aC)))))) (cn (I5 N) (cn (aai N) (cn (ads N) (cn (adu N) (cn (ady N) (cn (adA N) (cn (adE N) (cn (adG N) (cn (adI N) nl)))))))))
def OM:Int×dt×cW->V (Int×Int):=λ(a,d,b)=>(cR (decide (0<=a)&&decide (a.toNat<=b.br.length))).bind λ_=>(UO N (b.br.take a.toNat,d)).bind λc=>O (c.1,c.2)
abbrev aaj:b7 U:=⟨[.I,ahw,ahO],[.v .I,.v .I],Y,.pure (OM N)⟩
def adL:Holds 148 (aaj N):=gP N f148 .aC (cn (adK N) nl)
def Yb:Int×Int×(Z qy)×((Int×qy)->V (Int×Int))->V (Except kJ xW):=λ(c,e,d,f)=>aZ (λg((a,_):Int×xW)=>bif a<d.length then(aR d a).bind λi=>(qJ N (decide (a<e),gW.mk c a 0 4)).bind λj=>zd j (λk=>O (Except.error k)) λn=>(f (a,i)).bind λb=>(qJ N (b.2==0,gW.mk c a b.1 b.2)).bind λl=>zd l (λm=>O (Except.error m)) λo=>g (Wk.wrap (a+1),())else O (Except.ok ())) N (0,())
abbrev aak:b7 U:=⟨[.I,.I,ahG,(.fn (.gn .I ahE) aic)],[],(O (250,ahZ)),.pure (Yb N)⟩
def adM:Holds 150 (aak N):=gP N f150 (.W [0,1,3,12,13] [(14,.val .I)]) (cn (Lk N) nl)
def Yc:(Z qy)×(qy->V tl)->V Int:=λ(b,c)=>aS (λ(_:xW×xW)=>O (-1)) λd=>aZ (λe((a,_):Int×xW)=>bif a<b.length then(aR b a).bind λf=>(c f).bind λg=>bif g then O a else e (Wk.wrap (a+1),())else d ((),())) N (0,())
abbrev adN:b7 U:=⟨[ahG,(.fn ahE .bool)],[.v .I],Y,.pure (Yc N)⟩
def adO:Holds 230 (adN N):=gP N f230 (.q (.J (.W [0,1,7] [(8,.val .I)]) .aC)) nl
def RL:(Z qy)×(qy->V tl)->V tl:=λ(a,b)=>(Yc N (a,b)).bind λc=>O (decide (0<=c))
abbrev adP:b7 U:=⟨[ahG,(.fn ahE .bool)],[.v .bool],Y,.pure (RL N)⟩
def aal:Holds 152 (adP N):=gP N f152 .aC (cn (adO N) nl)
def UP(N:Nat):qy×qy->V tl:=λ(a,b)=>bif a.aw==b.aw then bif a.name==b.name then O (a.scope==b.scope)else O F else O F
abbrev adQ:b7 U:=⟨[ahE,ah8],[.v .bool],Y,.pure (UP N)⟩
def adR:Holds 153 (adQ N):=gP N f153 .aC nl
def UQ:Int×qy×cW->V (Int×Int):=λ(b,a,c)=>(nC N a.aw).bind λe=>bif !e then O (0,2)else(nC N a.name).bind λf=>bif !f then O (0,2)else(cR (decide (0<=b)&&decide (b.toNat<=c.dx.length))).bind λ_=>(RL N (c.dx.take b.toNat,λg=>UP N (g,a))).bind λi=>(OK N i).bind λd=>bif !(d==0)then O (0,d)else bif 4096<(a.Lb.length:Int)then O (0,3)else O (0,0)
abbrev aam:b7 U:=⟨[.I,ahE,ahO],[.v .I,.v .I],Y,.pure (UQ N)⟩
def adS:Holds 151 (aam N):=gP N f151 .aC (cn (I5 N) (cn (aaf N) (cn (aal N) (cn (adR N) nl))))
def Yd:Int×Int×(Z cV)×((Int×cV)->V (Int×Int))->V (Except kJ xW):=λ(c,e,d,f)=>aZ (λg((a,_):Int×xW)=>bif a<d.length then(aR d a).bind λi=>(qJ N (decide (a<e),gW.mk c a 0 4)).bind λj=>zd j (λk=>O (Except.error k)) λn=>(f (a,i)).bind λb=>(qJ N (b.2==0,gW.mk c a b.1 b.2)).bind λl=>zd l (λm=>O (Except.error m)) λo=>g (Wk.wrap (a+1),())else O (Except.ok ())) N (0,())
abbrev aan:b7 U:=⟨[.I,.I,ahX,(.fn (.gn .I ahS) aic)],[],(O (250,ahZ)),.pure (Yd N)⟩
def adT:Holds 154 (aan N):=gP N f154 (.W [0,1,3,12,13] [(14,.val .I)]) (cn (Lk N) nl)
def RM:Z kI->V Int:=λc=>bif 64<(c.length:Int)then O 4 else aS (λ(_:xW×xW)=>(UE N c).bind λf=>bif !f then O 2 else O 0) λg=>aZ (λd((b,_):Int×xW)=>bif b<c.length then(aR c b).bind λa=>(nC N a.name).bind λi=>aS (λ((j,_):tl×xW)=>bif a.kind<1 then O 2 else bif 5<a.kind then O 2 else bif !j then O 2 else bif a.num<0 then O 2 else bif 0<a.num then bif !(a.kind==2)then O 2 else bif 0<(a.args.length:Int)then bif !(a.kind==4)then O 2 else d (Wk.wrap (b+1),())else d (Wk.wrap (b+1),())else bif 0<(a.args.length:Int)then bif !(a.kind==4)then O 2 else d (Wk.wrap (b+1),())else d (Wk.wrap (b+1),())) λe=>bif a.kind==1 then e ((a.name==[]),())else e (i,())else g ((),())) N (0,())
abbrev adU:b7 U:=⟨[ahF],[.v .I],Y,.pure (RM N)⟩
def adV:Holds 156 (adU N):=gP N f156 (.q (.q (.seq (O ⟨F,[0],[],[],[]⟩) (.q (.block (.w [0,9,10] [(11,.val .I)] (.q (.q (.seq Y (.block (.q (.q (.seq (O ⟨F,[0,4,9,10,11],[(5,.val .bool)],[4],[]⟩) .aC .aC)))) .aC)))))) .aC))) (cn (I5 N) (cn (adb N) nl))
def UR:Int×cV->V (Int×Int):=λ(e,a)=>(nC N a.aw).bind λc=>bif !c then O (0,2)else(RM N a.left).bind λb=>bif !(b==0)then O (1,b)else(RM N a.right).bind λd=>O (2,d)
abbrev aao:b7 U:=⟨[.I,ahS],[.v .I,.v .I],Y,.pure (UR N)⟩
def adW:Holds 155 (aao N):=gP N f155 .aC (cn (I5 N) (cn (adV N) nl))
def Ye:Int×Int×(Z er)×((Int×er)->V (Int×Int))->V (Except kJ xW):=λ(c,e,d,f)=>aZ (λg((a,_):Int×xW)=>bif a<d.length then(aR d a).bind λi=>(qJ N (decide (a<e),gW.mk c a 0 4)).bind λj=>zd j (λk=>O (Except.error k)) λn=>(f (a,i)).bind λb=>(qJ N (b.2==0,gW.mk c a b.1 b.2)).bind λl=>zd l (λm=>O (Except.error m)) λo=>g (Wk.wrap (a+1),())else O (Except.ok ())) N (0,())
abbrev aap:b7 U:=⟨[.I,.I,ahH,(.fn (.gn .I ahL) aic)],[],(O (250,ahZ)),.pure (Ye N)⟩
def adX:Holds 157 (aap N):=gP N f157 (.W [0,1,3,12,13] [(14,.val .I)]) (cn (Lk N) nl)
def Yf:(Z er)×(er->V tl)->V Int:=λ(b,c)=>aS (λ(_:xW×xW)=>O (-1)) λd=>aZ (λe((a,_):Int×xW)=>bif a<b.length then(aR b a).bind λf=>(c f).bind λg=>bif g then O a else e (Wk.wrap (a+1),())else d ((),())) N (0,())
abbrev adY:b7 U:=⟨[ahH,(.fn ahL .bool)],[.v .I],Y,.pure (Yf N)⟩
def adZ:Holds 232 (adY N):=gP N f232 (.q (.J (.W [0,1,7] [(8,.val .I)]) .aC)) nl
def UT:(Z er)×(er->V tl)->V tl:=λ(a,b)=>(Yf N (a,b)).bind λc=>O (decide (0<=c))
abbrev ad0:b7 U:=⟨[ahH,(.fn ahL .bool)],[.v .bool],Y,.pure (UT N)⟩
def ad1:Holds 159 (ad0 N):=gP N f159 .aC (cn (adZ N) nl)
def Yg(N:Nat):er×er->V tl:=λ(a,b)=>O (a.aw==b.aw)
abbrev ad2:b7 U:=⟨[ahL,(.cell ahL)],[.v .bool],Y,.pure (Yg N)⟩
def ad3:Holds 160 (ad2 N):=gP N f160 .aC nl
def RN:cI×tl×Int×(Int->V (Int×Int))×Int->V (Int×Int):=λ(d,e,c,f,g)=>(nC N d).bind λi=>bif !i then O (0,2)else bif e then O (0,40)else bif 64<c then O (65,4)else aS (λ(_:xW×xW)=>O (0,0)) λj=>aZ (λk((a,_):Int×xW)=>bif a<c then(f a).bind λb=>bif b.1<1 then O (Wk.wrap (a+1),2)else bif g<b.1 then O (Wk.wrap (a+1),2)else bif 4096<b.2 then O (Wk.wrap (a+1),3)else k (Wk.wrap (a+1),())else j ((),())) N (0,())
abbrev ad4:b7 U:=⟨[.str,.bool,.I,(.fn .I aic),.I],[.v .I,.v .I],Y,.pure (RN N)⟩
def aaq:Holds 161 (ad4 N):=gP N f161 (.q (.q (.q (.q (.J (.W [3,4,21] [(22,.val .I)]) .aC))))) (cn (I5 N) nl)
def UW(N:Nat):Int×er->V (Int×Int):=λ(a,b)=>(aR b.cells a).bind λc=>(aR b.cells a).bind λd=>(aR b.cells a).bind λe=>O (c.kind,Wk.wrap ((d.text.length:Int)+(e.mark.length:Int)))
abbrev ad5:b7 U:=⟨[.I,(.cell ahL)],[.v .I,.v .I],Y,.pure (UW N)⟩
def ad6:Holds 162 (ad5 N):=gP N f162 .aC nl
def UX:Int×er×cW->V (Int×Int):=λ(c,a,b)=>(cR (decide (0<=c)&&decide (c.toNat<=b.dv.length))).bind λ_=>(UT N (b.dv.take c.toNat,λb=>Yg N (b,a))).bind λe=>(RN N (a.aw,e,(a.cells.length:Int),λf=>UW N (f,a),6)).bind λd=>O (d.1,d.2)
abbrev aar:b7 U:=⟨[.I,ahL,ahO],[.v .I,.v .I],Y,.pure (UX N)⟩
def ad7:Holds 158 (aar N):=gP N f158 .aC (cn (ad1 N) (cn (ad3 N) (cn (aaq N) (cn (ad6 N) nl))))
def Yh:Int×Int×(Z cC)×((Int×cC)->V (Int×Int))->V (Except kJ xW):=λ(c,e,d,f)=>aZ (λg((a,_):Int×xW)=>bif a<d.length then(aR d a).bind λi=>(qJ N (decide (a<e),gW.mk c a 0 4)).bind λj=>zd j (λk=>O (Except.error k)) λn=>(f (a,i)).bind λb=>(qJ N (b.2==0,gW.mk c a b.1 b.2)).bind λl=>zd l (λm=>O (Except.error m)) λo=>g (Wk.wrap (a+1),())else O (Except.ok ())) N (0,())
abbrev aas:b7 U:=⟨[.I,.I,ahI,(.fn (.gn .I ahM) aic)],[],(O (250,ahZ)),.pure (Yh N)⟩
def ad8:Holds 163 (aas N):=gP N f163 (.W [0,1,3,12,13] [(14,.val .I)]) (cn (Lk N) nl)
def Yi:(Z cC)×(cC->V tl)->V Int:=λ(b,c)=>aS (λ(_:xW×xW)=>O (-1)) λd=>aZ (λe((a,_):Int×xW)=>bif a<b.length then(aR b a).bind λf=>(c f).bind λg=>bif g then O a else e (Wk.wrap (a+1),())else d ((),())) N (0,())
abbrev ad9:b7 U:=⟨[ahI,(.fn ahM .bool)],[.v .I],Y,.pure (Yi N)⟩
def aea:Holds 233 (ad9 N):=gP N f233 (.q (.J (.W [0,1,7] [(8,.val .I)]) .aC)) nl
def UY:(Z cC)×(cC->V tl)->V tl:=λ(a,b)=>(Yi N (a,b)).bind λc=>O (decide (0<=c))
abbrev aeb:b7 U:=⟨[ahI,(.fn ahM .bool)],[.v .bool],Y,.pure (UY N)⟩
def aec:Holds 165 (aeb N):=gP N f165 .aC (cn (aea N) nl)
def Yj(N:Nat):cC×cC->V tl:=λ(a,b)=>O (a.aw==b.aw)
abbrev aed:b7 U:=⟨[ahM,(.cell ahM)],[.v .bool],Y,.pure (Yj N)⟩
def aee:Holds 166 (aed N):=gP N f166 .aC nl
def UZ(N:Nat):Int×cC->V (Int×Int):=λ(a,b)=>(aR b.eb a).bind λc=>(aR b.eb a).bind λd=>(aR b.eb a).bind λe=>O (c.kind,Wk.wrap ((d.text.length:Int)+(e.mark.length:Int)))
abbrev aef:b7 U:=⟨[.I,(.cell ahM)],[.v .I,.v .I],Y,.pure (UZ N)⟩
def aeg:Holds 167 (aef N):=gP N f167 .aC nl
def Y0:Int×cC×cW->V (Int×Int):=λ(c,a,b)=>(cR (decide (0<=c)&&decide (c.toNat<=b.ch.length))).bind λ_=>(UY N (b.ch.take c.toNat,λb=>Yj N (b,a))).bind λe=>(RN N (a.aw,e,(a.eb.length:Int),λf=>UZ N (f,a),5)).bind λd=>O (d.1,d.2)
abbrev aat:b7 U:=⟨[.I,ahM,ahO],[.v .I,.v .I],Y,.pure (Y0 N)⟩
def aeh:Holds 164 (aat N):=gP N f164 .aC (cn (aaq N) (cn (aec N) (cn (aee N) (cn (aeg N) nl))))
def Z2(N:Nat):cW->V (Except kJ xW):=λa=>(nC N a.name).bind λb=>(qJ N (b,gW.mk 0 0 0 2)).bind λc=>zd c (λd=>O (Except.error d)) λE=>(qJ N (decide (1<=a.version),gW.mk 0 1 0 2)).bind λe=>zd e (λf=>O (Except.error f)) λG=>(XY N (1,8,a.pZ,λ(g,h)=>UI N (g,h,a))).bind λi=>zd i (λj=>O (Except.error j)) λH=>(Y1 N (2,128,a.br,λ(k,l)=>OM N (k,l,a))).bind λm=>zd m (λn=>O (Except.error n)) λI=>(Yb N (3,256,a.dx,λ(o,p)=>UQ N (o,p,a))).bind λq=>zd q (λr=>O (Except.error r)) λJ=>(Yd N (4,256,a.equations,λ(s,t)=>UR N (s,t))).bind λu=>zd u (λv=>O (Except.error v)) λK=>(Ye N (5,256,a.dv,λ(w,x)=>UX N (w,x,a))).bind λy=>zd y (λz=>O (Except.error z)) λL=>(Yh N (6,256,a.ch,λ(A,B)=>Y0 N (A,B,a))).bind λC=>zd C (λD=>O (Except.error D)) λP=>O (Except.ok ())
def Zi:cW->V gW:=λa=>(Z2 N a).bind λr=>zd r (λe=>O e.f) λ_=>O (gW.mk 0 0 0 0)
def K50:b7 U:=⟨[ahy],[.v ahN],Y,.pure (Zi N)⟩
def We(N:Nat):Z (Nat×Z (b7 U)):=[(142,[aac N]),(143,[aad N]),(144,[aae N]),(145,[aag N]),(147,[aah N]),(148,[aaj N]),(150,[aak N]),(151,[aam N]),(154,[aan N]),(155,[aao N]),(157,[aap N]),(158,[aar N]),(163,[aas N]),(164,[aat N])]
def Yk(N:Nat)(E:cm)(a:B8 E):tY PP E TT BB (We N):=.cons (Lk N E a) (.cons (I5 N E a) (.cons (adg N E a) (.cons (adk N E a) (.cons (adl N E a) (.cons (adL N E a) (.cons (adM N E a) (.cons (adS N E a) (.cons (adT N E a) (.cons (adW N E a) (.cons (adX N E a) (.cons (ad7 N E a) (.cons (ad8 N E a) (.cons (aeh N E a) (.nil))))))))))))))
abbrev U6:Ty:=ahy
abbrev GB:Ty:=ahZ
abbrev Yl:Ty:=ahN
def U7(N:Nat):cI×cI->V tl:=λ(b,a)=>bif (a.length:Int)<=(b.length:Int)then(cR (decide (0<=(a.length:Int))&&decide ((a.length:Int).toNat<=b.length))).bind λ_=>O ((b.take ((a.length:Int).toNat))==a)else O F
abbrev aei:b7 U:=⟨[.str,.str],[.v .bool],Y,.pure (U7 N)⟩
def aej:Holds 273 (aei N):=gP N f273 .aC nl
def U8:cI×cI->V cI:=λ(a,b)=>(U7 N (a,b)).bind λc=>bif c then(cR (decide (0<=(b.length:Int))&&decide ((b.length:Int).toNat<=a.length))).bind λ_=>O (a.drop ((b.length:Int).toNat))else O a
abbrev aek:b7 U:=⟨[.str,.str],[.v .str],Y,.pure (U8 N)⟩
def ael:Holds 264 (aek N):=gP N f264 .aC (cn (aej N) nl)
def U9:cI×cI->V cI:=λ(a,b)=>(U8 N (a,b)).bind λc=>O c
abbrev aem:b7 U:=⟨[.str,.str],[.v .str],Y,.pure (U9 N)⟩
def aen:Holds 247 (aem N):=gP N f247 .aC (cn (ael N) nl)
def RQ(N:Nat):Int->V tl:=λa=>bif 65<=a then bif a<=90 then O W else bif 97<=a then O (decide (a<=122))else O F else bif 97<=a then O (decide (a<=122))else O F
abbrev aeo:b7 U:=⟨[ain],[.v .bool],Y,.pure (RQ N)⟩
def aep:Holds 248 (aeo N):=gP N f248 .aC nl
def Cj:cI->V tl:=λe=>(U9 N (e,[63])).bind λa=>bif a==[]then O F else bif 32<(a.length:Int)then O F else(aR a 0).bind λf=>(RQ N (f.toNat:Int)).bind λg=>bif !g then O F else aS (λ(_:xW×xW)=>O W) λh=>(cR (decide (a.length<=maxLen))).bind λ_=>aZ (λd((b,_):Int×xW)=>bif b<((a.map (λc:NT=>(c.toNat:Int))).length:Int)then(aR (a.map (λc:NT=>(c.toNat:Int))) b).bind λz21=>(RQ N z21).bind λi=>bif !i then bif z21<48 then bif !(z21==95)then O F else d (Wk.wrap (b+1),())else bif 57<z21 then bif !(z21==95)then O F else d (Wk.wrap (b+1),())else d (Wk.wrap (b+1),())else d (Wk.wrap (b+1),())else h ((),())) N (0,())
abbrev aeq:b7 U:=⟨[.str],[.v .bool],Y,.pure (Cj N)⟩
def aer:Holds 204 (aeq N):=gP N f204 (.q (.q (.q (.J (.W [21,22] [(23,.val .I)]) .aC)))) (cn (aen N) (cn (aep N) nl))
def Va:hD×Nd->V tl:=λ(f,a)=>(Cj N a.aw).bind λo=>bif !o then O F else bif !((a.cQ==0)==(a.role==[]))then O F else bif !(a.role==[])then(Cj N a.role).bind λp=>bif !p then O F else bif (f.ay.length:Int)<(a.bj.length:Int)then O F else aS (λ(_:xW×xW)=>aS (λ(_:xW×xW)=>O W) λq=>aZ (λk((b,_):Int×xW)=>bif b<a.ab.length then(aR a.ab b).bind λg=>(Cj N g.role).bind λr=>bif !r then O F else bif g.target<1 then O F else bif f.next<=g.target then O F else bif 0<b then(aR a.ab (Wk.wrap (b-1))).bind λs=>bif !(Op.bytesLess s.role g.role)then O F else k (Wk.wrap (b+1),())else k (Wk.wrap (b+1),())else q ((),())) N (0,())) λt=>aZ (λl((c,_):Int×xW)=>bif c<a.bl.length then(aR a.bl c).bind λi=>(Cj N i.name).bind λu=>bif !u then O F else bif 4096<(i.value.length:Int)then O F else bif 0<c then(aR a.bl (Wk.wrap (c-1))).bind λv=>bif !(Op.bytesLess v.name i.name)then O F else l (Wk.wrap (c+1),())else l (Wk.wrap (c+1),())else t ((),())) N (0,())else bif (f.ay.length:Int)<(a.bj.length:Int)then O F else aS (λ(_:xW×xW)=>aS (λ(_:xW×xW)=>O W) λw=>aZ (λm((d,_):Int×xW)=>bif d<a.ab.length then(aR a.ab d).bind λh=>(Cj N h.role).bind λx=>bif !x then O F else bif h.target<1 then O F else bif f.next<=h.target then O F else bif 0<d then(aR a.ab (Wk.wrap (d-1))).bind λy=>bif !(Op.bytesLess y.role h.role)then O F else m (Wk.wrap (d+1),())else m (Wk.wrap (d+1),())else w ((),())) N (0,())) λz=>aZ (λn((e,_):Int×xW)=>bif e<a.bl.length then(aR a.bl e).bind λj=>(Cj N j.name).bind λA=>bif !A then O F else bif 4096<(j.value.length:Int)then O F else bif 0<e then(aR a.bl (Wk.wrap (e-1))).bind λB=>bif !(Op.bytesLess B.name j.name)then O F else n (Wk.wrap (e+1),())else n (Wk.wrap (e+1),())else z ((),())) N (0,())
abbrev aes:b7 U:=⟨[ahB,ahK],[.v .bool],Y,.pure (Va N)⟩
def aet:Holds 111 (aes N):=gP N f111 (.q (.q (.seq (O ⟨F,[2,3],[],[2,3],[]⟩) (.q (.block (.loop ⟨F,[2,3,43,44],[(45,.val .I)],[2,3],[]⟩ .aC))) (.J (.q (.block (.loop ⟨F,[2,3,78,79],[(80,.val .I)],[2,3],[]⟩ .aC))) .aC)))) (cn (aer N) nl)
def Vb:hD->V Int:=λa=>(cR (decide (0<=(a.ay.length:Int))&&cE 8 ((a.ay.length:Int).toNat) 281474976710656)).bind λ_=>aS (λ((h,_):(Z Int)×xW)=>aS (λ(_:xW×xW)=>aS (λ(_:xW×xW)=>O 0) λq=>aZ (λr((i,_):Int×xW)=>bif i<a.ay.length then aS (λ(_:xW×xW)=>r (Wk.wrap (i+1),())) λs=>(aR a.ay i).bind λc=>aS (λ(_:xW×xW)=>O 29) λt=>aZ (λu(((n,J,K,o,L,P,Q,R),_):(Int×Int×cI×Int×cI×(Z Dm)×(Z Int)×(Z Rf))×xW)=>bif n<=64 then bif o==0 then s ((),())else(Dn N (a,o)).bind λv=>(aR a.ay v).bind λd=>u ((Wk.wrap (n+1),d.iD,d.aw,d.cQ,d.role,d.bl,d.bj,d.ab),())else t ((),())) N ((1,c.iD,c.aw,c.cQ,c.role,c.bl,c.bj,c.ab),())else q ((),())) N (0,())) λw=>aZ (λf((b,_):Int×xW)=>bif b<a.ay.length then(aR a.ay b).bind λj=>bif j.cQ==0 then(aR h b).bind λx=>bif !(x==0)then O 29 else bif !(j.cQ==0)then(aR h b).bind λy=>bif !(y==1)then O 29 else f (Wk.wrap (b+1),())else f (Wk.wrap (b+1),())else bif !(j.cQ==0)then(aR h b).bind λz=>bif !(z==1)then O 29 else f (Wk.wrap (b+1),())else f (Wk.wrap (b+1),())else w ((),())) N (0,())) λA=>aZ (λB(((k,p),_):(Int×(Z Int))×xW)=>bif k<a.ay.length then aS (λ((C,_):(Z Int)×xW)=>B ((Wk.wrap (k+1),C),())) λD=>(aR a.ay k).bind λl=>aZ (λE(((m,g),_):(Int×(Z Int))×xW)=>bif m<l.bj.length then(aR l.bj m).bind λG=>(Dn N (a,G)).bind λe=>bif e<0 then O 29 else(aR a.ay e).bind λH=>bif !(H.cQ==l.iD)then O 29 else(aR g e).bind λI=>(aR g e).bind λS=>E ((Wk.wrap (m+1),g.set e.toNat (Wk.wrap (I+1))),())else D (g,())) N ((0,p),())else A (p,())) N ((0,List.replicate (a.ay.length:Int).toNat (0:Int)),())
abbrev aeu:b7 U:=⟨[ahB],[.v .I],Y,.pure (Vb N)⟩
def aev:Holds 112 (aeu N):=gP N f112 (.q (.scope (.q (.seq (O ⟨F,[1,3],[],[1],[(3,.bi .I 3)]⟩) (.q (.block (.loop ⟨F,[1,3,19,20],[(21,.val .I)],[1],[(3,.bi .I 3)]⟩ (.q (.q (.seq (O ⟨F,[1,3,19,20,21],[],[1],[(3,.bi .I 3)]⟩) (.block (.q (.q (.block (.loop ⟨F,[1,3,5,19,20,21,26,27],[(28,.val .I)],[1,5],[(3,.bi .I 3)]⟩ .aC))))) .aC)))))) (.seq (O ⟨F,[1],[],[1],[]⟩) (.q (.block (.loop ⟨F,[1,3,57,58],[(59,.val .I)],[1,3],[]⟩ .aC))) (.q (.J (.q (.block (.loop ⟨F,[1,88,89],[(90,.val .I)],[1],[]⟩ (.q (.q (.seq (O ⟨F,[1,88,89,90],[],[1],[]⟩) (.block (.q (.J (.q (.block (.loop ⟨F,[1,12,88,89,90],[(13,.val .I)],[1],[(12,.cells ahK [.val .I,.val .str,.val .I,.val .str,.val ah3,.val ah6,.val ah4])]⟩ .aC))) .aC))) .aC)))))) .aC))))))) (cn (Un N) nl)
def Zj:hD->V Int:=λa=>bif a.next<1 then O 29 else bif 1048577<a.next then O 29 else bif 4096<(a.ay.length:Int)then O 29 else aS (λ(_:xW×xW)=>(Vb N a).bind λc=>O c) λd=>aZ (λe(((f,b),_):(Int×Int)×xW)=>bif b<a.ay.length then(aR a.ay b).bind λWf=>bif Wf.iD<=f then O 29 else bif a.next<=Wf.iD then O 29 else(Va N (a,Wf)).bind λg=>bif !g then O 29 else e ((Wf.iD,Wk.wrap (b+1)),())else d ((),())) N ((0,0),())
abbrev K45:b7 U:=⟨[ahB],[.v .I],Y,.pure (Zj N)⟩
def G45:Holds 45 (K45 N):=gP N f45 (.q (.q (.q (.seq (O ⟨F,[1],[],[1],[]⟩) (.q (.block (.loop ⟨F,[1,21,22],[(3,.val .I),(23,.val .I)],[1],[]⟩ .aC))) .aC)))) (cn (aet N) (cn (aev N) nl))
def Vc:(Z bk)×(Z bk)->V tl:=λ(b,c)=>bif !((b.length:Int)==(c.length:Int))then O F else aS (λ(_:xW×xW)=>O W) λd=>aZ (λe((a,_):Int×xW)=>bif a<b.length then(aR b a).bind λWg=>(aR c a).bind λZk=>bif !((Wg.base==Zk.base)&&((Wg.next==Zk.next)&&W))then O F else e (Wk.wrap (a+1),())else d ((),())) N (0,())
abbrev aew:b7 U:=⟨[ahP,ahP],[.v .bool],Y,.pure (Vc N)⟩
def aex:Holds 205 (aew N):=gP N f205 (.q (.q (.J (.W [0,1,12] [(13,.val .I)]) .aC))) nl
def hE:(V Nat)×Int×Int×(Z bk)->Hp->V (tl×Hp):=λ(e,a,a2,c) h=>
 e.bind λi1=>
 (h.oN[i1]?).bind λf=>
 f.eB.bind λb=>
 (cR (decide (0<=a)&&decide (a<(b.2:Int)))).bind λ_=>
 (bz h.v8 b.1).bind λg=>
 (g[a.toNat]?).bind λi=>
 bif i.B9 then
  (bz h.v8 b.1).bind λj=>
  (j[a.toNat]?).bind λk=>
  bif k.cJ==a2 then
   (bz h.v8 b.1).bind λl=>
   (l[a.toNat]?).bind λm=>
   (Vc N (m.loops,c)).bind λn=>
   O (n,h)
  else O (F,h)
 else
  (bz h.v8 b.1).bind λd=>
  (d[a.toNat]?).bind λp=>
  bw {h with v8:=h.v8.set b.1 (O (d.set a.toNat (db.mk W a2 c)))} λo=>
  O (W,o)
abbrev aey:b7 U:=⟨[(.ptr 16),.I,.I,ahP],[.v .bool],Y,.st (hE N)⟩
def aau:Holds 113 (aey N):=gS N f113 .aC (cn (aex N) nl)
def RR(N:Nat):Int->V Int:=λa=>bif a==1 then O 97 else bif a==8 then O 97 else bif a==2 then O 105 else bif a==3 then O 116 else bif 10<=a then bif a<=12 then O 110 else bif a==14 then O 110 else bif a==15 then O 110 else bif a==30 then O 112 else bif a==31 then O 112 else bif a==33 then O 112 else bif a==34 then O 112 else bif a==39 then O 112 else bif a==40 then O 112 else O 45 else bif a==14 then O 110 else bif a==15 then O 110 else bif a==30 then O 112 else bif a==31 then O 112 else bif a==33 then O 112 else bif a==34 then O 112 else bif a==39 then O 112 else bif a==40 then O 112 else O 45
abbrev aez:b7 U:=⟨[.I],[.v ain],Y,.pure (RR N)⟩
def aav:Holds 206 (aez N):=gP N f206 .aC nl
def ON:c8->V tl:=λa=>bif a.op<1 then O F else bif 40<a.op then O F else(RR N a.op).bind λc=>aS (λ((d,_):tl×xW)=>bif d then O F else bif c==116 then O (decide ((a.text.length:Int)<=4096))else bif c==110 then(nC N a.text).bind λe=>O e else bif !(a.op==1)then O W else O (decide (0<a.arg))) λb=>bif !(c==97)then bif !(c==112)then bif !(a.arg==0)then b (W,())else bif !(c==105)then bif !(a.int==0)then b (W,())else bif !(c==116)then bif !(c==110)then bif !(a.text==[])then b (W,())else b ((decide (a.arg<0)),())else b ((decide (a.arg<0)),())else b ((decide (a.arg<0)),())else bif !(c==116)then bif !(c==110)then bif !(a.text==[])then b (W,())else b ((decide (a.arg<0)),())else b ((decide (a.arg<0)),())else b ((decide (a.arg<0)),())else bif !(c==105)then bif !(a.int==0)then b (W,())else bif !(c==116)then bif !(c==110)then bif !(a.text==[])then b (W,())else b ((decide (a.arg<0)),())else b ((decide (a.arg<0)),())else b ((decide (a.arg<0)),())else bif !(c==116)then bif !(c==110)then bif !(a.text==[])then b (W,())else b ((decide (a.arg<0)),())else b ((decide (a.arg<0)),())else b ((decide (a.arg<0)),())else bif !(c==105)then bif !(a.int==0)then b (W,())else bif !(c==116)then bif !(c==110)then bif !(a.text==[])then b (W,())else b ((decide (a.arg<0)),())else b ((decide (a.arg<0)),())else b ((decide (a.arg<0)),())else bif !(c==116)then bif !(c==110)then bif !(a.text==[])then b (W,())else b ((decide (a.arg<0)),())else b ((decide (a.arg<0)),())else b ((decide (a.arg<0)),())
abbrev aeA:b7 U:=⟨[ahu],[.v .bool],Y,.pure (ON N)⟩
def aeB:Holds 114 (aeA N):=gP N f114 (.q (.q (.q (.seq Y (.block (.seq (O ⟨F,[1,3],[(15,.val .bool)],[1],[]⟩) .aC .aC)) .aC)))) (cn (I5 N) (cn (aav N) nl))
def Vd(N:Nat):Int->V Int:=λa=>bif a<=9 then O 0 else bif a==34 then O 0 else bif a==39 then O 0 else bif 22<=a then bif a<=28 then O 2 else O 1 else O 1
abbrev aeC:b7 U:=⟨[.I],[.v .I],Y,.pure (Vd N)⟩
def aeD:Holds 207 (aeC N):=gP N f207 .aC nl
def Ll(N:Nat):Z bk->V (Z bk):=λa=>bif a.isEmpty then both (O []) ((cR (cE 16 (0+a.length) 140737488355328)).bind λ_=>O (([]:Z _)++a))else(cR (cE 16 (0+a.length) 140737488355328)).bind λ_=>O (([]:Z _)++a)
abbrev aeE:b7 U:=⟨[ahP],[.bU aim 317],Y,.pure (Ll N)⟩
def aeF:Holds 208 (aeE N):=gP N f208 .aC nl
def Ve:(V Nat)×Int×c8->Hp->V (tl×Hp):=λ(c,b,d) h=>c.bind λi1=>(h.oN[i1]?).bind λq0=>q0.eB.bind λo=>(cR (decide (0<=b)&&decide (b<(o.2:Int)))).bind λ_=>(bz h.v8 o.1).bind λr0=>(r0[b.toNat]?).bind λa=>aS (λ(((e,r1,p),_):(Int×Int×Int)×xW)=>(Vd N d.op).bind λs0=>bif Wk.wrap (a.cJ-e)<s0 then O (F,h)else aS (λ((t0,_):tl×xW)=>bif t0 then O (F,h)else bif d.op==1 then(hE N (c,Wk.wrap (b+1),a.cJ,a.loops) h).bind λq=>O (q.1,q.2)else bif d.op==29 then(hE N (c,Wk.wrap (b+1),a.cJ,a.loops) h).bind λr=>O (r.1,r.2)else bif d.op==32 then(hE N (c,Wk.wrap (b+1),a.cJ,a.loops) h).bind λs=>O (s.1,s.2)else bif d.op==8 then aS (λ((u0,v0):tl×Hp)=>O (u0,v0)) λt=>bif d.arg<(a.loops.length:Int)then(hE N (c,Wk.wrap (b+1),Wk.wrap (a.cJ+1),a.loops) h).bind λu=>t (u.1,u.2)else t (F,h)else bif d.op==2 then(hE N (c,Wk.wrap (b+1),Wk.wrap (a.cJ+1),a.loops) h).bind λv=>O (v.1,v.2)else bif d.op==3 then(hE N (c,Wk.wrap (b+1),Wk.wrap (a.cJ+1),a.loops) h).bind λw=>O (w.1,w.2)else bif d.op==4 then(hE N (c,Wk.wrap (b+1),Wk.wrap (a.cJ+1),a.loops) h).bind λx=>O (x.1,x.2)else bif d.op==5 then(hE N (c,Wk.wrap (b+1),Wk.wrap (a.cJ+1),a.loops) h).bind λy=>O (y.1,y.2)else bif d.op==6 then(hE N (c,Wk.wrap (b+1),Wk.wrap (a.cJ+1),a.loops) h).bind λz=>O (z.1,z.2)else bif d.op==7 then(hE N (c,Wk.wrap (b+1),Wk.wrap (a.cJ+1),a.loops) h).bind λA=>O (A.1,A.2)else bif d.op==9 then(hE N (c,Wk.wrap (b+1),Wk.wrap (a.cJ+1),a.loops) h).bind λB=>O (B.1,B.2)else bif d.op==22 then(hE N (c,Wk.wrap (b+1),Wk.wrap (a.cJ-1),a.loops) h).bind λC=>O (C.1,C.2)else bif d.op==23 then(hE N (c,Wk.wrap (b+1),Wk.wrap (a.cJ-1),a.loops) h).bind λD=>O (D.1,D.2)else bif d.op==24 then(hE N (c,Wk.wrap (b+1),Wk.wrap (a.cJ-1),a.loops) h).bind λE=>O (E.1,E.2)else bif d.op==25 then(hE N (c,Wk.wrap (b+1),Wk.wrap (a.cJ-1),a.loops) h).bind λG=>O (G.1,G.2)else bif d.op==26 then(hE N (c,Wk.wrap (b+1),Wk.wrap (a.cJ-1),a.loops) h).bind λH=>O (H.1,H.2)else bif d.op==27 then(hE N (c,Wk.wrap (b+1),Wk.wrap (a.cJ-1),a.loops) h).bind λI=>O (I.1,I.2)else bif d.op==28 then(hE N (c,Wk.wrap (b+1),Wk.wrap (a.cJ-1),a.loops) h).bind λJ=>O (J.1,J.2)else bif d.op==30 then(hE N (c,d.arg,a.cJ,a.loops) h).bind λg=>aS (λ((w0,x0):tl×Hp)=>O (w0,x0)) λK=>bif g.1 then(hE N (c,Wk.wrap (b+1),Wk.wrap (a.cJ-1),a.loops) g.2).bind λL=>K (L.1,L.2)else K (F,g.2)else bif d.op==31 then(hE N (c,d.arg,a.cJ,a.loops) h).bind λi=>aS (λ((y0,A0):tl×Hp)=>O (y0,A0)) λP=>bif i.1 then(hE N (c,Wk.wrap (b+1),Wk.wrap (a.cJ-1),a.loops) i.2).bind λQ=>P (Q.1,Q.2)else P (F,i.2)else bif d.op==33 then(hE N (c,d.arg,Wk.wrap (a.cJ-1),a.loops) h).bind λj=>aS (λ((B0,C0):tl×Hp)=>O (B0,C0)) λR=>bif j.1 then(hE N (c,Wk.wrap (b+1),Wk.wrap (a.cJ-1),a.loops) j.2).bind λS=>R (S.1,S.2)else R (F,j.2)else bif d.op==34 then(hE N (c,d.arg,a.cJ,a.loops) h).bind λT=>O (T.1,T.2)else bif d.op==35 then aS (λ((D0,_):tl×xW)=>bif D0 then O (F,h)else(Ll N a.loops).bind λU=>(cR (cE 16 (U.length+[bk.mk (Wk.wrap (a.cJ-1)) (Wk.wrap (b+1))].length) 140737488355328)).bind λ_=>(hE N (c,Wk.wrap (b+1),Wk.wrap (a.cJ-1),U++[bk.mk (Wk.wrap (a.cJ-1)) (Wk.wrap (b+1))]) h).bind λX=>O (X.1,X.2)) λb0=>c.bind λE0=>(h.oN[E0]?).bind λG0=>bif (Wk.wrap (b+1))==(G0.l.length:Int)then b0 (W,())else c.bind λH0=>(h.oN[H0]?).bind λI0=>(aR I0.l (Wk.wrap (b+1))).bind λJ0=>b0 ((!(J0.op==39)),())else bif d.op==36 then aS (λ((K0,_):tl×xW)=>bif K0 then O (F,h)else(Ll N a.loops).bind λc0=>(cR (cE 16 (c0.length+[bk.mk (Wk.wrap (a.cJ-1)) (Wk.wrap (b+1))].length) 140737488355328)).bind λ_=>(hE N (c,Wk.wrap (b+1),Wk.wrap (a.cJ-1),c0++[bk.mk (Wk.wrap (a.cJ-1)) (Wk.wrap (b+1))]) h).bind λd0=>O (d0.1,d0.2)) λe0=>c.bind λL0=>(h.oN[L0]?).bind λN0=>bif (Wk.wrap (b+1))==(N0.l.length:Int)then e0 (W,())else c.bind λP0=>(h.oN[P0]?).bind λQ0=>(aR Q0.l (Wk.wrap (b+1))).bind λR0=>e0 ((!(R0.op==39)),())else bif d.op==37 then aS (λ((S0,_):tl×xW)=>bif S0 then O (F,h)else(Ll N a.loops).bind λf0=>(cR (cE 16 (f0.length+[bk.mk (Wk.wrap (a.cJ-1)) (Wk.wrap (b+1))].length) 140737488355328)).bind λ_=>(hE N (c,Wk.wrap (b+1),Wk.wrap (a.cJ-1),f0++[bk.mk (Wk.wrap (a.cJ-1)) (Wk.wrap (b+1))]) h).bind λg0=>O (g0.1,g0.2)) λh0=>c.bind λT0=>(h.oN[T0]?).bind λU0=>bif (Wk.wrap (b+1))==(U0.l.length:Int)then h0 (W,())else c.bind λX0=>(h.oN[X0]?).bind λb1=>(aR b1.l (Wk.wrap (b+1))).bind λc1=>h0 ((!(c1.op==39)),())else bif d.op==38 then aS (λ((d1,_):tl×xW)=>bif d1 then O (F,h)else(Ll N a.loops).bind λi0=>(cR (cE 16 (i0.length+[bk.mk (Wk.wrap (a.cJ-1)) (Wk.wrap (b+1))].length) 140737488355328)).bind λ_=>(hE N (c,Wk.wrap (b+1),Wk.wrap (a.cJ-1),i0++[bk.mk (Wk.wrap (a.cJ-1)) (Wk.wrap (b+1))]) h).bind λj0=>O (j0.1,j0.2)) λl0=>c.bind λe1=>(h.oN[e1]?).bind λf1=>bif (Wk.wrap (b+1))==(f1.l.length:Int)then l0 (W,())else c.bind λg1=>(h.oN[g1]?).bind λh1=>(aR h1.l (Wk.wrap (b+1))).bind λj1=>l0 ((!(j1.op==39)),())else bif d.op==39 then aS (λ((k1,_):tl×xW)=>bif k1 then O (F,h)else(cR (decide (0<=Wk.wrap ((a.loops.length:Int)-1))&&decide ((Wk.wrap ((a.loops.length:Int)-1)).toNat<=a.loops.length))).bind λ_=>(hE N (c,d.arg,Wk.wrap (e+1),a.loops.take ((Wk.wrap ((a.loops.length:Int)-1)).toNat)) h).bind λk=>aS (λ((l1,m1):tl×Hp)=>O (l1,m1)) λm0=>bif k.1 then(hE N (c,Wk.wrap (b+1),e,a.loops) k.2).bind λn0=>m0 (n0.1,n0.2)else m0 (F,k.2)) λl=>bif (a.loops.length:Int)==0 then l (W,())else bif !(p==b)then l (W,())else l ((!(a.cJ==e)),())else bif d.op==40 then aS (λ((n1,_):tl×xW)=>O (n1,h)) λm=>bif 0<(a.loops.length:Int)then bif d.arg==p then m ((a.cJ==(Wk.wrap (e+1))),())else m (F,())else m (F,())else(hE N (c,Wk.wrap (b+1),a.cJ,a.loops) h).bind λo0=>O (o0.1,o0.2)) λf=>bif !(d.op==40)then(RR N d.op).bind λo1=>bif o1==112 then bif d.arg<=b then f (W,())else c.bind λp1=>(h.oN[p1]?).bind λq1=>f ((decide ((q1.l.length:Int)<d.arg)),())else f (F,())else f (F,())) λp0=>bif 0<(a.loops.length:Int)then(aR a.loops (Wk.wrap ((a.loops.length:Int)-1))).bind λn=>p0 ((n.base,n.base,n.next),())else p0 ((0,0,0),())
abbrev aeG:b7 U:=⟨[(.ptr 16),.I,ahu],[.v .bool],Y,.st (Ve N)⟩
def aeH:Holds 115 (aeG N):=gS N f115 (.q (.q (.q (.q (.seq (O ⟨F,[0,1,5,7,9,10],[(8,.val .I)],[5,7],[(10,.cells aim [.val .I,.val .I])]⟩) .aC (.q (.seq Y (.seq (O ⟨F,[0,1,5,7,8,9,10],[(66,.val .bool)],[5,7,10],[]⟩) .aC .aC) (.seq Y (.q (.block (.q (.cond .aC (.q (.cond (.seq (O ⟨W,[],[(6,.val .bool)],[],[]⟩) .aC .aC) (.q (.cond .aC (.q (.cond .aC (.q (.cond (.q (.seq (O ⟨W,[],[(6,.val .bool)],[],[]⟩) .aC .aC)) (.q (.cond (.q (.seq (O ⟨W,[],[(6,.val .bool)],[],[]⟩) .aC .aC)) (.q (.cond .aC (.q (.cond (.seq Y (.seq (O ⟨F,[0,1,7],[(212,.val .bool)],[7],[]⟩) .aC .aC) .aC) (.q (.cond (.seq Y (.seq (O ⟨F,[0,1,5,7,8,9],[(246,.val .bool)],[5,7],[]⟩) .aC .aC) (.q (.seq (O ⟨W,[],[(6,.val .bool)],[],[]⟩) .aC .aC))) (.q (.cond (.seq (O ⟨F,[],[(6,.val .bool)],[],[]⟩) .aC .aC) .aC)))))))))))))))))))))) .aC)))))))) (cn (aau N) (cn (aav N) (cn (aeD N) (cn (aeF N) nl))))
def Z3:qI->Hp->V ((Int×Int)×Hp):=λa h=>
 bif 1024<(a.aq.length:Int)then O ((0,4),h)
 else
  (cR (decide (0<=Wk.wrap ((a.aq.length:Int)+1))&&cE 40 ((Wk.wrap ((a.aq.length:Int)+1)).toNat) 281474976710656)).bind λ_=>
  (cR (!(List.replicate (Wk.wrap ((a.aq.length:Int)+1)).toNat (db.mk F 0 []:db)).isEmpty)).bind λ_=>
  bw {h with v8:=h.v8++[O (List.replicate (Wk.wrap ((a.aq.length:Int)+1)).toNat (db.mk F 0 []:db))]} λc=>
  bw {c with oN:=c.oN++[Zh.mk a.aq (O (h.v8.length,(List.replicate (Wk.wrap ((a.aq.length:Int)+1)).toNat (db.mk F 0 []:db)).length))]} λl=>
  (hE N (O c.oN.length,0,0,[]) {c with oN:=l.oN}).bind λm=>
  aS (λ((_,d):xW×Hp)=>
   (O c.oN.length).bind λn=>
   (d.oN[n]?).bind λo=>
   o.eB.bind λi=>
   (cR (decide (0<=(a.aq.length:Int))&&decide ((a.aq.length:Int)<(i.2:Int)))).bind λ_=>
   (bz d.v8 i.1).bind λp=>
   (p[(a.aq.length:Int).toNat]?).bind λf=>
   bif !f.B9 then O (((a.aq.length:Int),110),d)
   else
    bif !(f.cJ==1)then O (((a.aq.length:Int),110),d)
    else
     bif 0<(f.loops.length:Int)then O (((a.aq.length:Int),110),d)
     else O ((0,0),d)) λq=>
  aZ (λr((b,e):Int×Hp)=>
   bif b<a.aq.length then
    (aR a.aq b).bind λj=>
    (O c.oN.length).bind λs=>
    (e.oN[s]?).bind λt=>
    t.eB.bind λk=>
    (cR (decide (0<=b)&&decide (b<(k.2:Int)))).bind λ_=>
    (bz e.v8 k.1).bind λu=>
    (u[b.toNat]?).bind λv=>
    bif !v.B9 then O ((b,110),e)
    else
     (ON N j).bind λw=>
     bif !w then O ((b,110),e)
     else
      (Ve N (O c.oN.length,b,j) e).bind λg=>
      bif !g.1 then O ((b,110),g.2)
      else r (Wk.wrap (b+1),g.2)
   else q ((),e)) N (0,m.2)
abbrev K46:b7 U:=⟨[ahT],[.v .I,.v .I],Y,.st (Z3 N)⟩
def G46:Holds 46 (K46 N):=gS N f46 (.q (.q (.q (.q (.q (.seq (O ⟨W,[4,5],[],[],[]⟩) (.q (.block (.loop ⟨W,[4,5,24,25],[(26,.val .I)],[],[]⟩ .aC))) .aC)))))) (cn (aau N) (cn (aeB N) (cn (aeH N) nl))) [(20,16)]
def Lm(N:Nat):(V Nat)×Int->Hp->V (Int×Hp):=λ(b,c) h=>
 b.bind λi1=>
 (h.fj[i1]?).bind λe=>
 b.bind λf=>
 (h.fj[f]?).bind λg=>
 bif Wk.wrap (e.bT-g.eC)<c then O (100,h)
 else
  b.bind λi=>
  (h.fj[i]?).bind λj=>
  b.bind λd=>
  (h.fj[d]?).bind λa=>
  bw {h with fj:=h.fj.set d (bO.mk a.t a.m a.c a.lh a.self a.bT (Wk.wrap (j.eC+c)) a.eB a.stack a.loops a.fA)} λk=>
  O (0,k)
abbrev aeI:b7 U:=⟨[ahx,.I],[.v .I],Y,.st (Lm N)⟩
def Ym:Holds 119 (aeI N):=gS N f119 .aC nl
def gE(N:Nat):(V Nat)×eT->Hp->V (Int×Hp):=λ(f,b) h=>
 f.bind λi1=>
 (h.fj[i1]?).bind λg=>
 (ad h.IT g.stack).bind λc=>
 (cR (cE 72 (c.length+[b].length) 140737488355328)).bind λ_=>
 bw {h with IT:=ek h.IT g.stack} λd=>
 f.bind λi=>
 (cR (!(c++[b]).isEmpty)).bind λ_=>
 bw {d with IT:=d.IT++[O (c++[b])]} λe=>
 (e.fj[i]?).bind λa=>
 bw {e with fj:=e.fj.set i (bO.mk a.t a.m a.c a.lh a.self a.bT a.eC a.eB (O (d.IT.length,(c++[b]).length)) a.loops a.fA)} λj=>
 O (0,j)
abbrev aeJ:b7 U:=⟨[ahx,ahz],[.v .I],Y,.st (gE N)⟩
def zh:Holds 121 (aeJ N):=gS N f121 .aC nl
def Dp(N:Nat):cI->V eT:=λa=>O (eT.mk 2 0 a F 0 [])
abbrev aeK:b7 U:=⟨[.str],[.v ahz],Y,.pure (Dp N)⟩
def Vf:Holds 124 (aeK N):=gP N f124 .aC nl
def jv(N:Nat):tl->V eT:=λa=>O (eT.mk 3 0 [] a 0 [])
abbrev aeL:b7 U:=⟨[.bool],[.v ahz],Y,.pure (jv N)⟩
def Ln:Holds 126 (aeL N):=gP N f126 .aC nl
def I6(N:Nat):Int->V eT:=λa=>O (eT.mk 4 0 [] F a [])
abbrev aeM:b7 U:=⟨[.I],[.v ahz],Y,.pure (I6 N)⟩
def RT:Holds 129 (aeM N):=gP N f129 .aC nl
def Lo(N:Nat):V Nat->Hp->V (eT×Hp):=λb h=>
 b.bind λi1=>
 (h.fj[i1]?).bind λi=>
 b.bind λj=>
 (h.fj[j]?).bind λc=>
 i.stack.bind λe=>
 (cR (decide (0<=Wk.wrap ((cU c.stack:Int)-1))&&decide (Wk.wrap ((cU c.stack:Int)-1)<(e.2:Int)))).bind λ_=>
 (bz h.IT e.1).bind λk=>
 (k[(Wk.wrap ((cU c.stack:Int)-1)).toNat]?).bind λl=>
 b.bind λi8=>
 (h.fj[i8]?).bind λm=>
 b.bind λn=>
 (h.fj[n]?).bind λd=>
 m.stack.bind λf=>
 (cR (decide (0<=Wk.wrap ((cU d.stack:Int)-1))&&decide ((Wk.wrap ((cU d.stack:Int)-1)).toNat<=f.2))).bind λ_=>
 b.bind λg=>
 (h.fj[g]?).bind λa=>
 bw {h with fj:=h.fj.set g (bO.mk a.t a.m a.c a.lh a.self a.bT a.eC a.eB (O (f.1,(Wk.wrap ((cU d.stack:Int)-1)).toNat)) a.loops a.fA)} λo=>
 O (l,o)
abbrev K26:b7 U:=⟨[ahx],[.v ahz],Y,.st (Lo N)⟩
def Yn:Holds 26 (K26 N):=gS N f26 .aC nl
def OO:V Nat->Hp->V ((Nd×Int)×Hp):=λb h=>(Lo N b h).bind λa=>bif !(a.1.kind==4)then O ((Nd.mk 0 [] 0 [] [] [] [],90),a.2)else b.bind λi2=>(a.2.fj[i2]?).bind λd=>(dX a.2.jt d.lh).bind λc=>bif !((a8 bp c a.1.node).isSome)then O ((Nd.mk 0 [] 0 [] [] [] [],102),a.2)else O (((a8 bp c a.1.node).getD (Nd.mk 0 [] 0 [] [] [] []),0),a.2)
abbrev aeN:b7 U:=⟨[ahx],[.v ahK,.v .I],Y,.st (OO N)⟩
def aaw:Holds 213 (aeN N):=gS N f213 .aC (cn (Yn N) nl)
def Yo(N:Nat):Z Int->V eT:=λa=>O (eT.mk 5 0 [] F 0 a)
abbrev aeO:b7 U:=⟨[ah6],[.v ahz],Y,.pure (Yo N)⟩
def aeP:Holds 214 (aeO N):=gP N f214 .aC nl
def Vg(N:Nat):(V Nat)×Int->Hp->V (tl×Hp):=λ(a,b) h=>a.bind λi1=>(h.fj[i1]?).bind λc=>(dX h.jt c.lh).bind λd=>O (((a8 bp d b).isSome),h)
abbrev aeQ:b7 U:=⟨[ahx,.I],[.v .bool],Y,.st (Vg N)⟩
def aeR:Holds 215 (aeQ N):=gS N f215 .aC nl
def GC:(V Nat)×cI×cI->Hp->V (tl×Hp):=λ(b,d,c) h=>bif b.isNone then O ((d==c),h)else b.bind λi1=>(h.dU[i1]?).bind λm=>bif m.lh.isNone then O ((d==c),h)else b.bind λn=>(Uw N (n,1) h).bind λo=>b.bind λp=>(Ux N (p,b) o.2).bind λa=>b.bind λq=>(a.2.dU[q]?).bind λr=>(dX a.2.jk r.lh).bind λi=>b.bind λs=>(a.2.dU[s]?).bind λt=>(dX a.2.jk t.lh).bind λe=>bif ((a8 c7 i d).getD Y).isNone then O ((d==c),a.2)else bif ((a8 c7 e c).getD Y).isNone then O ((d==c),a.2)else b.bind λu=>(a.2.dU[u]?).bind λv=>((a8 c7 i d).getD Y).bind λw=>(a.2.et[w]?).bind λf=>((a8 c7 e c).getD Y).bind λx=>(a.2.et[x]?).bind λj=>(cR (decide (64≠0))).bind λ_=>v.bits.bind λg=>(cR (decide (0<=f.number)&&decide (f.number<(g.2:Int)))).bind λ_=>bif bp (Wk.wrap (j.number.tdiv 64)) 0 then(bz a.2.hQ g.1).bind λy=>(y[f.number.toNat]?).bind λz=>((a8 c7 e c).getD Y).bind λA=>(a.2.et[A]?).bind λk=>(cR (decide (64≠0))).bind λ_=>(cR (decide (0<=k.number.tmod 64))).bind λ_=>O (((IntKind.u64.wrap ((BitVec.ofInt IntKind.u64.bits (z.e0.fdiv (2^(min ((k.number.tmod 64).toNat) IntKind.u64.bits)))&&&BitVec.ofInt IntKind.u64.bits 1).toNat))==1),a.2)else bif bp (Wk.wrap (j.number.tdiv 64)) 1 then(bz a.2.hQ g.1).bind λB=>(B[f.number.toNat]?).bind λC=>((a8 c7 e c).getD Y).bind λD=>(a.2.et[D]?).bind λl=>(cR (decide (64≠0))).bind λ_=>(cR (decide (0<=l.number.tmod 64))).bind λ_=>O (((IntKind.u64.wrap ((BitVec.ofInt IntKind.u64.bits (C.e1.fdiv (2^(min ((l.number.tmod 64).toNat) IntKind.u64.bits)))&&&BitVec.ofInt IntKind.u64.bits 1).toNat))==1),a.2)else Y
abbrev aeS:b7 U:=⟨[ahY,.str,.str],[.v .bool],Y,.st (GC N)⟩
def aeT:Holds 216 (aeS N):=gS N f216 .aC (cn (acZ N) (cn (ac1 N) nl))
def RU:hD×Int->Hp->V ((Z Int)×Hp):=λ(a,b) h=>(Zj N a).bind λd=>bif !(d==0)then O ([],h)else(Dn N (a,b)).bind λe=>bif e<0 then O ([],h)else(Rv N (a,b) h).bind λc=>O (c.1,c.2)
abbrev aeU:b7 U:=⟨[ahB,.I],[.v ah6],Y,.st (RU N)⟩
def aeV:Holds 217 (aeU N):=gS N f217 .aC (cn (G45 N) (cn (Un N) (cn (acQ N) nl)))
def Lp:(V Nat)×c8->Hp->V (Int×Hp):=λ(b,c) h=>(OO N b h).bind λa=>bif !(a.1.2==0)then O (a.1.2,a.2)else bif c.op==10 then aS (λ((I,_):cI×xW)=>(Dp N I).bind λJ=>(gE N (b,J) a.2).bind λu=>O (u.1,u.2)) λK=>aZ (λL(((v,g),_):(cI×Int)×xW)=>bif g<a.1.1.bl.length then aS (λ((P,_):cI×xW)=>L ((P,Wk.wrap (g+1)),())) λw=>(aR a.1.1.bl g).bind λx=>bif x.name==c.text then w (x.value,())else w (v,())else K (v,())) N (([],0),())else bif c.op==11 then aS (λ((Q,_):(Z Int)×xW)=>(Yo N Q).bind λR=>(gE N (b,R) a.2).bind λy=>O (y.1,y.2)) λS=>aZ (λT(((e,i),_):((Z Int)×Int)×xW)=>bif i<a.1.1.bj.length then aS (λ((U,_):(Z Int)×xW)=>T ((U,Wk.wrap (i+1)),())) λz=>(aR a.1.1.bj i).bind λj=>b.bind λX=>(a.2.fj[X]?).bind λb0=>(dX a.2.jt b0.lh).bind λc0=>bif (((a8 bp c0 j).getD (Nd.mk 0 [] 0 [] [] [] [])).role)==c.text then(cR (cE 8 (e.length+[j].length) 140737488355328)).bind λ_=>z ((e++[j]),())else z (e,())else S (e,())) N (([],0),())else bif c.op==12 then aS (λ((d0,e0):Int×Hp)=>(I6 N d0).bind λf0=>(gE N (b,f0) e0).bind λA=>O (A.1,A.2)) λg0=>aZ (λh0(((k,l),m):(Int×Int)×Hp)=>bif l<a.1.1.ab.length then aS (λ((i0,j0):Int×Hp)=>h0 ((i0,Wk.wrap (l+1)),j0)) λn=>(aR a.1.1.ab l).bind λo=>bif o.role==c.text then(Vg N (b,o.target) m).bind λp=>bif p.1 then n (o.target,p.2)else n (k,p.2)else n (k,m)else g0 (k,m)) N ((0,0),a.2)else bif c.op==13 then(I6 N a.1.1.cQ).bind λl0=>(gE N (b,l0) a.2).bind λB=>O (B.1,B.2)else bif c.op==14 then b.bind λm0=>(a.2.fj[m0]?).bind λn0=>(GC N (n0.t,a.1.1.aw,c.text) a.2).bind λC=>(jv N C.1).bind λo0=>(gE N (b,o0) C.2).bind λD=>O (D.1,D.2)else aS (λ((p0,q0):(Z Int)×Hp)=>(Yo N p0).bind λr0=>(gE N (b,r0) q0).bind λE=>O (E.1,E.2)) λs0=>b.bind λt0=>(a.2.fj[t0]?).bind λu0=>(RU N (u0.m,a.1.1.iD) a.2).bind λq=>aZ (λv0(((f,r),G):((Z Int)×Int)×Hp)=>bif r<q.1.length then aS (λ((w0,x0):(Z Int)×Hp)=>v0 ((w0,Wk.wrap (r+1)),x0)) λH=>(aR q.1 r).bind λs=>(Lm N (b,1) G).bind λd=>bif !(d.1==0)then O (d.1,d.2)else b.bind λy0=>(d.2.fj[y0]?).bind λA0=>b.bind λB0=>(d.2.fj[B0]?).bind λC0=>(dX d.2.jt C0.lh).bind λD0=>(GC N (A0.t,((a8 bp D0 s).getD (Nd.mk 0 [] 0 [] [] [] [])).aw,c.text) d.2).bind λt=>bif t.1 then(cR (cE 8 (f.length+[s].length) 140737488355328)).bind λ_=>H ((f++[s]),t.2)else H (f,t.2)else s0 (f,G)) N (([],0),q.2)
abbrev aeW:b7 U:=⟨[ahx,ahu],[.v .I],Y,.st (Lp N)⟩
def aeX:Holds 133 (aeW N):=gS N f133 (.q (.q (.q (.seq Y (.q (.block (.q (.cond (.q (.seq (O ⟨F,[0],[(7,.val .str)],[],[]⟩) (.q (.block (.loop ⟨F,[0,3,33,34],[(7,.val .str),(35,.val .I)],[3],[]⟩ (.q (.q (.seq (O ⟨F,[0,3,33,34,35],[(7,.val .str)],[3],[]⟩) .aC .aC)))))) .aC)) (.q (.cond (.q (.seq (O ⟨F,[0],[(10,.bU 10 .I 3)],[],[]⟩) (.q (.block (.loop ⟨F,[0,3,54,55],[(10,.bU 10 .I 3),(56,.val .I)],[3],[]⟩ (.q (.q (.seq (O ⟨F,[0,3,54,55,56],[(10,.bU 10 .I 3)],[3],[]⟩) .aC .aC)))))) .aC)) (.q (.cond (.q (.seq (O ⟨W,[0],[(13,.val .I)],[],[]⟩) (.q (.block (.loop ⟨W,[0,3,82,83],[(13,.val .I),(84,.val .I)],[3],[]⟩ (.q (.q (.seq (O ⟨W,[0,3,82,83,84],[(13,.val .I)],[3],[]⟩) .aC .aC)))))) .aC)) .aC)))))))) (.q (.seq (O ⟨W,[0],[(16,.bU 16 .I 3)],[],[]⟩) (.q (.block (.loop ⟨W,[0,3,133,134],[(16,.bU 16 .I 3),(135,.val .I)],[3],[]⟩ (.q (.q (.seq (O ⟨W,[0,3,133,134,135],[(16,.bU 16 .I 3)],[3],[]⟩) .aC .aC)))))) .aC)))))) (cn (Ym N) (cn (zh N) (cn (Vf N) (cn (Ln N) (cn (RT N) (cn (aaw N) (cn (aeP N) (cn (aeR N) (cn (aeT N) (cn (aeV N) nl))))))))))
def p7(N:Nat):Int->V eT:=λa=>O (eT.mk 1 a [] F 0 [])
abbrev aeY:b7 U:=⟨[.I],[.v ahz],Y,.pure (p7 N)⟩
def Vh:Holds 122 (aeY N):=gP N f122 .aC nl
def Lq:Int->V cI:=λa=>(XW N (a,10)).bind λb=>O b
abbrev aeZ:b7 U:=⟨[.I],[.v .str],Y,.pure (Lq N)⟩
def ae0:Holds 218 (aeZ N):=gP N f218 .aC (cn (acV N) nl)
def Lr:(V Nat)×c8->Hp->V (Int×Hp):=λ(b,c) h=>bif c.op==19 then(OO N b h).bind λd=>bif !(d.1.2==0)then O (d.1.2,d.2)else bif c.op==20 then(p7 N d.1.1.iD).bind λI=>(gE N (b,I) d.2).bind λf=>O (f.1,f.2)else(Dp N d.1.1.aw).bind λJ=>(gE N (b,J) d.2).bind λg=>O (g.1,g.2)else bif c.op==20 then(OO N b h).bind λe=>bif !(e.1.2==0)then O (e.1.2,e.2)else bif c.op==20 then(p7 N e.1.1.iD).bind λK=>(gE N (b,K) e.2).bind λi=>O (i.1,i.2)else(Dp N e.1.1.aw).bind λL=>(gE N (b,L) e.2).bind λj=>O (j.1,j.2)else(Lo N b h).bind λa=>bif c.op==16 then bif a.1.kind==5 then(p7 N (a.1.aq.length:Int)).bind λP=>(gE N (b,P) a.2).bind λk=>O (k.1,k.2)else bif c.op==17 then bif a.1.kind==5 then(cR (decide (0<=(a.1.aq.length:Int))&&(decide ((a.1.aq.length:Int)=(a.1.aq.length:Int))&&decide ((a.1.aq.length:Int).toNat<=a.1.aq.length)))).bind λ_=>(cR (((a.1.aq.take ((a.1.aq.length:Int).toNat)).isEmpty||![0].isEmpty)&&cE 8 ((a.1.aq.take ((a.1.aq.length:Int).toNat)).length+[0].length) 140737488355328)).bind λ_=>(aR ((a.1.aq.take ((a.1.aq.length:Int).toNat))++[0]) 0).bind λXU=>(I6 N XU).bind λQ=>(gE N (b,Q) a.2).bind λl=>O (l.1,l.2)else bif c.op==18 then bif a.1.kind==1 then(Lq N a.1.int).bind λR=>(Dp N R).bind λS=>(gE N (b,S) a.2).bind λm=>O (m.1,m.2)else bif c.op==21 then bif a.1.kind==2 then(Cg N a.1.text).bind λn=>bif !(n.2==0)then O (103,a.2)else(p7 N n.1).bind λT=>(gE N (b,T) a.2).bind λo=>O (o.1,o.2)else O (90,a.2)else O (90,a.2)else bif c.op==21 then bif a.1.kind==2 then(Cg N a.1.text).bind λp=>bif !(p.2==0)then O (103,a.2)else(p7 N p.1).bind λU=>(gE N (b,U) a.2).bind λq=>O (q.1,q.2)else O (90,a.2)else O (90,a.2)else bif c.op==18 then bif a.1.kind==1 then(Lq N a.1.int).bind λX=>(Dp N X).bind λb0=>(gE N (b,b0) a.2).bind λr=>O (r.1,r.2)else bif c.op==21 then bif a.1.kind==2 then(Cg N a.1.text).bind λs=>bif !(s.2==0)then O (103,a.2)else(p7 N s.1).bind λc0=>(gE N (b,c0) a.2).bind λt=>O (t.1,t.2)else O (90,a.2)else O (90,a.2)else bif c.op==21 then bif a.1.kind==2 then(Cg N a.1.text).bind λu=>bif !(u.2==0)then O (103,a.2)else(p7 N u.1).bind λd0=>(gE N (b,d0) a.2).bind λv=>O (v.1,v.2)else O (90,a.2)else O (90,a.2)else bif c.op==17 then bif a.1.kind==5 then(cR (decide (0<=(a.1.aq.length:Int))&&(decide ((a.1.aq.length:Int)=(a.1.aq.length:Int))&&decide ((a.1.aq.length:Int).toNat<=a.1.aq.length)))).bind λ_=>(cR (((a.1.aq.take ((a.1.aq.length:Int).toNat)).isEmpty||![0].isEmpty)&&cE 8 ((a.1.aq.take ((a.1.aq.length:Int).toNat)).length+[0].length) 140737488355328)).bind λ_=>(aR ((a.1.aq.take ((a.1.aq.length:Int).toNat))++[0]) 0).bind λe0=>(I6 N e0).bind λf0=>(gE N (b,f0) a.2).bind λw=>O (w.1,w.2)else bif c.op==18 then bif a.1.kind==1 then(Lq N a.1.int).bind λg0=>(Dp N g0).bind λh0=>(gE N (b,h0) a.2).bind λx=>O (x.1,x.2)else bif c.op==21 then bif a.1.kind==2 then(Cg N a.1.text).bind λy=>bif !(y.2==0)then O (103,a.2)else(p7 N y.1).bind λi0=>(gE N (b,i0) a.2).bind λz=>O (z.1,z.2)else O (90,a.2)else O (90,a.2)else bif c.op==21 then bif a.1.kind==2 then(Cg N a.1.text).bind λA=>bif !(A.2==0)then O (103,a.2)else(p7 N A.1).bind λj0=>(gE N (b,j0) a.2).bind λB=>O (B.1,B.2)else O (90,a.2)else O (90,a.2)else bif c.op==18 then bif a.1.kind==1 then(Lq N a.1.int).bind λl0=>(Dp N l0).bind λm0=>(gE N (b,m0) a.2).bind λC=>O (C.1,C.2)else bif c.op==21 then bif a.1.kind==2 then(Cg N a.1.text).bind λD=>bif !(D.2==0)then O (103,a.2)else(p7 N D.1).bind λn0=>(gE N (b,n0) a.2).bind λE=>O (E.1,E.2)else O (90,a.2)else O (90,a.2)else bif c.op==21 then bif a.1.kind==2 then(Cg N a.1.text).bind λG=>bif !(G.2==0)then O (103,a.2)else(p7 N G.1).bind λo0=>(gE N (b,o0) a.2).bind λH=>O (H.1,H.2)else O (90,a.2)else O (90,a.2)
abbrev ae1:b7 U:=⟨[ahx,ahu],[.v .I],Y,.st (Lr N)⟩
def ae2:Holds 134 (ae1 N):=gS N f134 .aC (cn (Yn N) (cn (zh N) (cn (Vh N) (cn (Vf N) (cn (RT N) (cn (aaw N) (cn (ae0 N) (cn (acU N) nl))))))))
def Yp(N:Nat):Int×Int->V (Int×Int):=λ(a,b)=>(cR (decide (0<=32))).bind λ_=>(cR (decide (0<=32))).bind λ_=>(cR (decide (0<=32))).bind λ_=>(cR (decide (0<=32))).bind λ_=>(cR (decide (0<=32))).bind λ_=>O (IntKind.u64.wrap ((IntKind.u64.wrap ((IntKind.u64.wrap ((a.fdiv (2^(min 32 IntKind.u64.bits)))*(b.fdiv (2^(min 32 IntKind.u64.bits)))))+((IntKind.u64.wrap ((IntKind.u64.wrap ((a.fdiv (2^(min 32 IntKind.u64.bits)))*(IntKind.u64.wrap ((BitVec.ofInt IntKind.u64.bits b&&&BitVec.ofInt IntKind.u64.bits 4294967295).toNat))))+((IntKind.u64.wrap ((IntKind.u64.wrap ((BitVec.ofInt IntKind.u64.bits a&&&BitVec.ofInt IntKind.u64.bits 4294967295).toNat))*(IntKind.u64.wrap ((BitVec.ofInt IntKind.u64.bits b&&&BitVec.ofInt IntKind.u64.bits 4294967295).toNat)))).fdiv (2^(min 32 IntKind.u64.bits))))).fdiv (2^(min 32 IntKind.u64.bits)))))+((IntKind.u64.wrap ((IntKind.u64.wrap ((BitVec.ofInt IntKind.u64.bits (IntKind.u64.wrap ((IntKind.u64.wrap ((a.fdiv (2^(min 32 IntKind.u64.bits)))*(IntKind.u64.wrap ((BitVec.ofInt IntKind.u64.bits b&&&BitVec.ofInt IntKind.u64.bits 4294967295).toNat))))+((IntKind.u64.wrap ((IntKind.u64.wrap ((BitVec.ofInt IntKind.u64.bits a&&&BitVec.ofInt IntKind.u64.bits 4294967295).toNat))*(IntKind.u64.wrap ((BitVec.ofInt IntKind.u64.bits b&&&BitVec.ofInt IntKind.u64.bits 4294967295).toNat)))).fdiv (2^(min 32 IntKind.u64.bits)))))&&&BitVec.ofInt IntKind.u64.bits 4294967295).toNat))+(IntKind.u64.wrap ((IntKind.u64.wrap ((BitVec.ofInt IntKind.u64.bits a&&&BitVec.ofInt IntKind.u64.bits 4294967295).toNat))*(b.fdiv (2^(min 32 IntKind.u64.bits))))))).fdiv (2^(min 32 IntKind.u64.bits)))),IntKind.u64.wrap (a*b))
abbrev ae3:b7 U:=⟨[ah7,ah7],[.v ah7,.v ah7],Y,.pure (Yp N)⟩
def ae4:Holds 255 (ae3 N):=gP N f255 .aC nl
def Vi(N:Nat):Int->V Int:=λa=>bif a<0 then O (IntKind.u64.wrap (0-(IntKind.u64.wrap a)))else O (IntKind.u64.wrap a)
abbrev ae5:b7 U:=⟨[.I],[.v ah7],Y,.pure (Vi N)⟩
def ae6:Holds 256 (ae5 N):=gP N f256 .aC nl
def Vj:Int×Int×Int->V (eT×Int):=λ(d,a,b)=>aS (λ(_:xW×xW)=>O (eT.mk 0 0 [] F 0 [],101)) λc=>bif d==27 then(jv N (decide (a<b))).bind λf=>O (f,0)else bif d==28 then(jv N (decide (a<=b))).bind λg=>O (g,0)else bif d==22 then bif ((decide (a<Wk.wrap (a+b)))==(decide (0<b)))then(p7 N (Wk.wrap (a+b))).bind λh=>O (h,0)else c ((),())else bif d==23 then bif ((decide (Wk.wrap (a-b)<a))==(decide (0<b)))then(p7 N (Wk.wrap (a-b))).bind λi=>O (i,0)else c ((),())else bif d==24 then(Vi N a).bind λj=>(Vi N b).bind λk=>(Yp N (j,k)).bind λe=>bif e.1==0 then bif e.2<9223372036854775808 then(p7 N (Wk.wrap (a*b))).bind λl=>O (l,0)else bif e.2==9223372036854775808 then bif !((decide (a<0))==(decide (b<0)))then(p7 N (Wk.wrap (a*b))).bind λm=>O (m,0)else c ((),())else c ((),())else c ((),())else c ((),())
abbrev ae7:b7 U:=⟨[.I,.I,.I],[.v ahz,.v .I],Y,.pure (Vj N)⟩
def ae8:Holds 220 (ae7 N):=gP N f220 (.q (.seq (O ⟨F,[6],[],[6],[]⟩) .aC .aC)) (cn (Vh N) (cn (Ln N) (cn (ae4 N) (cn (ae6 N) nl))))
def RW:Int×eT×eT->V (eT×Int):=λ(c,a,b)=>bif !(a.kind==b.kind)then O (eT.mk 0 0 [] F 0 [],90)else bif c==25 then bif a.kind==5 then O (eT.mk 0 0 [] F 0 [],90)else bif a.int==b.int then bif a.text==b.text then bif (a.bool==b.bool)then(jv N ((a.node==b.node)==(c==25))).bind λe=>O (e,0)else(jv N (F==(c==25))).bind λf=>O (f,0)else(jv N (F==(c==25))).bind λg=>O (g,0)else(jv N (F==(c==25))).bind λh=>O (h,0)else bif c==26 then bif a.kind==5 then O (eT.mk 0 0 [] F 0 [],90)else bif a.int==b.int then bif a.text==b.text then bif (a.bool==b.bool)then(jv N ((a.node==b.node)==(c==25))).bind λi=>O (i,0)else(jv N (F==(c==25))).bind λj=>O (j,0)else(jv N (F==(c==25))).bind λk=>O (k,0)else(jv N (F==(c==25))).bind λl=>O (l,0)else bif a.kind==1 then(Vj N (c,a.int,b.int)).bind λd=>O (d.1,d.2)else bif a.kind==2 then bif c==22 then bif 4096<Wk.wrap ((a.text.length:Int)+(b.text.length:Int))then O (eT.mk 0 0 [] F 0 [],3)else(cR (decide (a.text.length+b.text.length<=maxLen))).bind λ_=>(Dp N (a.text++b.text)).bind λm=>O (m,0)else bif a.kind==2 then bif c==27 then(jv N (Op.bytesLess a.text b.text)).bind λn=>O (n,0)else bif a.kind==2 then bif c==28 then(jv N (Op.bytesLess a.text b.text||a.text==b.text)).bind λo=>O (o,0)else O (eT.mk 0 0 [] F 0 [],90)else O (eT.mk 0 0 [] F 0 [],90)else bif a.kind==2 then bif c==28 then(jv N (Op.bytesLess a.text b.text||a.text==b.text)).bind λp=>O (p,0)else O (eT.mk 0 0 [] F 0 [],90)else O (eT.mk 0 0 [] F 0 [],90)else bif a.kind==2 then bif c==27 then(jv N (Op.bytesLess a.text b.text)).bind λq=>O (q,0)else bif a.kind==2 then bif c==28 then(jv N (Op.bytesLess a.text b.text||a.text==b.text)).bind λr=>O (r,0)else O (eT.mk 0 0 [] F 0 [],90)else O (eT.mk 0 0 [] F 0 [],90)else bif a.kind==2 then bif c==28 then(jv N (Op.bytesLess a.text b.text||a.text==b.text)).bind λs=>O (s,0)else O (eT.mk 0 0 [] F 0 [],90)else O (eT.mk 0 0 [] F 0 [],90)
abbrev ae9:b7 U:=⟨[.I,ahz,ahz],[.v ahz,.v .I],Y,.pure (RW N)⟩
def afa:Holds 136 (ae9 N):=gP N f136 .aC (cn (Vf N) (cn (Ln N) (cn (ae8 N) nl)))
def Ls:(V Nat)×c8->Hp->V (Int×Hp):=λ(a,f) h=>(Lo N a h).bind λd=>(Lo N a d.2).bind λb=>(RW N (f.op,b.1,d.1)).bind λc=>bif !(c.2==0)then O (c.2,b.2)else(gE N (a,c.1) b.2).bind λe=>O (e.1,e.2)
abbrev afb:b7 U:=⟨[ahx,ahu],[.v .I],Y,.st (Ls N)⟩
def afc:Holds 135 (afb N):=gS N f135 .aC (cn (Yn N) (cn (zh N) (cn (afa N) nl)))
def GD:(V Nat)×c8->Hp->V (Int×Hp):=λ(f,e) h=>
 bif e.op==34 then
  f.bind λi1=>
  (h.fj[i1]?).bind λb=>
  bw {h with fj:=h.fj.set i1 (bO.mk b.t b.m b.c b.lh b.self b.bT b.eC e.arg b.stack b.loops b.fA)} λm=>
  O (0,m)
 else
  (Lo N f h).bind λa=>
  bif !(a.1.kind==3)then O (90,a.2)
  else
   bif e.op==29 then
    (jv N (!a.1.bool)).bind λn=>
    (gE N (f,n) a.2).bind λg=>
    O (g.1,g.2)
   else
    bif e.op==32 then
     (gE N (f,a.1) a.2).bind λi=>
     O (i.1,i.2)
    else
     bif e.op==33 then
      aS (λ((_,o):xW×Hp)=>O (0,o)) λj=>
      bif !a.1.bool then
       f.bind λk=>
       (a.2.fj[k]?).bind λc=>
       bw {a.2 with fj:=a.2.fj.set k (bO.mk c.t c.m c.c c.lh c.self c.bT c.eC e.arg c.stack c.loops c.fA)} λp=>
       j ((),p)
      else j ((),a.2)
     else
      bif (a.1.bool==(e.op==31))then
       f.bind λi16=>
       (a.2.fj[i16]?).bind λd=>
       bw {a.2 with fj:=a.2.fj.set i16 (bO.mk d.t d.m d.c d.lh d.self d.bT d.eC e.arg d.stack d.loops d.fA)} λq=>
       (gE N (f,a.1) q).bind λl=>
       O (l.1,l.2)
      else O (0,a.2)
abbrev afd:b7 U:=⟨[ahx,ahu],[.v .I],Y,.st (GD N)⟩
def afe:Holds 137 (afd N):=gS N f137 (.q (.q (.q (.q (.seq Y (.q (.block (.q (.cond .aC (.q (.cond .aC (.q (.cond (.seq (O ⟨W,[],[],[],[]⟩) .aC .aC) .aC)))))))) .aC))))) (cn (Yn N) (cn (zh N) (cn (Ln N) nl)))
def Lt:(V Nat)×c8->Hp->V (Int×Hp):=λ(e,c) h=>
 (Lo N e h).bind λa=>
 bif !(a.1.kind==5)then O (90,a.2)
 else
  e.bind λi2=>
  (a.2.fj[i2]?).bind λi=>
  (ad a.2.jC i.loops).bind λd=>
  (cR (cE 72 (d.length+[bJ.mk (fE.mk Y 0) c.op a.1.aq 0].length) 140737488355328)).bind λ_=>
  bw {a.2 with jC:=ek a.2.jC i.loops} λf=>
  e.bind λj=>
  (cR (!(d++[bJ.mk (fE.mk Y 0) c.op a.1.aq 0]).isEmpty)).bind λ_=>
  bw {f with jC:=f.jC++[O (d++[bJ.mk (fE.mk Y 0) c.op a.1.aq 0])]} λg=>
  (g.fj[j]?).bind λb=>
  bw {g with fj:=g.fj.set j (bO.mk b.t b.m b.c b.lh b.self b.bT b.eC b.eB b.stack (O (f.jC.length,(d++[bJ.mk (fE.mk Y 0) c.op a.1.aq 0]).length)) b.fA)} λk=>
  O (0,k)
abbrev aff:b7 U:=⟨[ahx,ahu],[.v .I],Y,.st (Lt N)⟩
def afg:Holds 138 (aff N):=gS N f138 .aC (cn (Yn N) nl)
def GF:(V Nat)×Int×eT->Hp->V (Int×Hp):=λ(c,k,l) h=>
 c.bind λi1=>
 (h.fj[i1]?).bind λm=>
 c.bind λn=>
 (h.fj[n]?).bind λd=>
 m.loops.bind λf=>
 (cR (decide (0<=Wk.wrap ((cU d.loops:Int)-1))&&decide ((Wk.wrap ((cU d.loops:Int)-1)).toNat<=f.2))).bind λ_=>
 c.bind λg=>
 (h.fj[g]?).bind λa=>
 bw {h with fj:=h.fj.set g (bO.mk a.t a.m a.c a.lh a.self a.bT a.eC a.eB a.stack (O (f.1,(Wk.wrap ((cU d.loops:Int)-1)).toNat)) a.fA)} λe=>
 c.bind λi=>
 (e.fj[i]?).bind λb=>
 bw {e with fj:=e.fj.set i (bO.mk b.t b.m b.c b.lh b.self b.bT b.eC k b.stack b.loops b.fA)} λo=>
 (gE N (c,l) o).bind λj=>
 O (j.1,j.2)
abbrev afh:b7 U:=⟨[ahx,.I,ahz],[.v .I],Y,.st (GF N)⟩
def aax:Holds 221 (afh N):=gS N f221 .aC (cn (zh N) nl)
def Lu:(V Nat)×c8->Hp->V (Int×Hp):=λ(c,d) h=>
 c.bind λi1=>
 (h.fj[i1]?).bind λo=>
 c.bind λp=>
 (h.fj[p]?).bind λa=>
 o.loops.bind λb=>
 (cR (decide (0<=Wk.wrap ((cU a.loops:Int)-1))&&decide (Wk.wrap ((cU a.loops:Int)-1)<(b.2:Int)))).bind λ_=>
 (bz h.jC b.1).bind λq=>
 (q[(Wk.wrap ((cU a.loops:Int)-1)).toNat]?).bind λr=>
 (bz h.jC b.1).bind λs=>
 (s[(Wk.wrap ((cU a.loops:Int)-1)).toNat]?).bind λt=>
 bif r.dH<(t.fY.length:Int)then
  (bz h.jC b.1).bind λu=>
  (u[(Wk.wrap ((cU a.loops:Int)-1)).toNat]?).bind λv=>
  (bz h.jC b.1).bind λf=>
  (f[(Wk.wrap ((cU a.loops:Int)-1)).toNat]?).bind λe=>
  bw {h with jC:=h.jC.set b.1 (O (f.set (Wk.wrap ((cU a.loops:Int)-1)).toNat (bJ.mk e.cx e.op e.fY (Wk.wrap (v.dH+1)))))} λw=>
  (Lm N (c,1) w).bind λg=>
  O (g.1,g.2)
 else
  (bz h.jC b.1).bind λx=>
  (x[(Wk.wrap ((cU a.loops:Int)-1)).toNat]?).bind λi=>
  bif i.op==37 then
   (bz h.jC b.1).bind λy=>
   (y[(Wk.wrap ((cU a.loops:Int)-1)).toNat]?).bind λj=>
   (ad h.gls j.cx.aq).bind λz=>
   bw {h with gls:=ek h.gls j.cx.aq} λk=>
   (GF N (c,d.arg,eT.mk 5 0 [] F 0 z) {h with jC:=k.jC,gls:=k.gls}).bind λl=>
   O (l.1,l.2)
  else
   bif i.op==38 then
    (bz h.jC b.1).bind λA=>
    (A[(Wk.wrap ((cU a.loops:Int)-1)).toNat]?).bind λB=>
    (p7 N B.cx.sum).bind λC=>
    (GF N (c,d.arg,C) h).bind λm=>
    O (m.1,m.2)
   else
    (bz h.jC b.1).bind λD=>
    (D[(Wk.wrap ((cU a.loops:Int)-1)).toNat]?).bind λE=>
    (jv N (E.op==36)).bind λG=>
    (GF N (c,d.arg,G) h).bind λn=>
    O (n.1,n.2)
abbrev afi:b7 U:=⟨[ahx,ahu],[.v .I],Y,.st (Lu N)⟩
def afj:Holds 139 (afi N):=gS N f139 .aC (cn (Ym N) (cn (Vh N) (cn (Ln N) (cn (aax N) nl))))
def Lv:(V Nat)×c8->Hp->V (Int×Hp):=λ(f,p) h=>
 f.bind λi1=>
 (h.fj[i1]?).bind λB=>
 f.bind λC=>
 (h.fj[C]?).bind λb=>
 B.loops.bind λc=>
 (cR (decide (0<=Wk.wrap ((cU b.loops:Int)-1))&&decide (Wk.wrap ((cU b.loops:Int)-1)<(c.2:Int)))).bind λ_=>
 (Lo N f h).bind λd=>
 f.bind λs=>
 (d.2.fj[s]?).bind λe=>
 bw {d.2 with fj:=d.2.fj.set s (bO.mk e.t e.m e.c e.lh e.self e.bT e.eC p.arg e.stack e.loops e.fA)} λa=>
 (bz a.jC c.1).bind λD=>
 (D[(Wk.wrap ((cU b.loops:Int)-1)).toNat]?).bind λE=>
 bif E.op==38 then
  bif !(d.1.kind==1)then O (90,a)
  else
   bif 0<d.1.int then
    (bz a.jC c.1).bind λG=>
    (G[(Wk.wrap ((cU b.loops:Int)-1)).toNat]?).bind λH=>
    bif Wk.wrap (9223372036854775807-d.1.int)<H.cx.sum then O (101,a)
    else
     bif d.1.int<0 then
      (bz a.jC c.1).bind λI=>
      (I[(Wk.wrap ((cU b.loops:Int)-1)).toNat]?).bind λJ=>
      bif J.cx.sum<Wk.wrap ((-9223372036854775808)-d.1.int)then O (101,a)
      else
       (bz a.jC c.1).bind λK=>
       (K[(Wk.wrap ((cU b.loops:Int)-1)).toNat]?).bind λL=>
       (bz a.jC c.1).bind λt=>
       (t[(Wk.wrap ((cU b.loops:Int)-1)).toNat]?).bind λi=>
       bw {a with jC:=a.jC.set c.1 (O (t.set (Wk.wrap ((cU b.loops:Int)-1)).toNat (bJ.mk (fE.mk i.cx.aq (Wk.wrap (L.cx.sum+d.1.int))) i.op i.fY i.dH)))} λP=>
       O (0,P)
     else
      (bz a.jC c.1).bind λQ=>
      (Q[(Wk.wrap ((cU b.loops:Int)-1)).toNat]?).bind λR=>
      (bz a.jC c.1).bind λu=>
      (u[(Wk.wrap ((cU b.loops:Int)-1)).toNat]?).bind λj=>
      bw {a with jC:=a.jC.set c.1 (O (u.set (Wk.wrap ((cU b.loops:Int)-1)).toNat (bJ.mk (fE.mk j.cx.aq (Wk.wrap (R.cx.sum+d.1.int))) j.op j.fY j.dH)))} λS=>
      O (0,S)
   else
    bif d.1.int<0 then
     (bz a.jC c.1).bind λT=>
     (T[(Wk.wrap ((cU b.loops:Int)-1)).toNat]?).bind λU=>
     bif U.cx.sum<Wk.wrap ((-9223372036854775808)-d.1.int)then O (101,a)
     else
      (bz a.jC c.1).bind λX=>
      (X[(Wk.wrap ((cU b.loops:Int)-1)).toNat]?).bind λb0=>
      (bz a.jC c.1).bind λv=>
      (v[(Wk.wrap ((cU b.loops:Int)-1)).toNat]?).bind λk=>
      bw {a with jC:=a.jC.set c.1 (O (v.set (Wk.wrap ((cU b.loops:Int)-1)).toNat (bJ.mk (fE.mk k.cx.aq (Wk.wrap (b0.cx.sum+d.1.int))) k.op k.fY k.dH)))} λc0=>
      O (0,c0)
    else
     (bz a.jC c.1).bind λd0=>
     (d0[(Wk.wrap ((cU b.loops:Int)-1)).toNat]?).bind λe0=>
     (bz a.jC c.1).bind λw=>
     (w[(Wk.wrap ((cU b.loops:Int)-1)).toNat]?).bind λl=>
     bw {a with jC:=a.jC.set c.1 (O (w.set (Wk.wrap ((cU b.loops:Int)-1)).toNat (bJ.mk (fE.mk l.cx.aq (Wk.wrap (e0.cx.sum+d.1.int))) l.op l.fY l.dH)))} λf0=>
     O (0,f0)
 else
  aS (λ((_,g0):xW×Hp)=>O (0,g0)) λg=>
  bif !(d.1.kind==3)then O (90,a)
  else
   (bz a.jC c.1).bind λh0=>
   (h0[(Wk.wrap ((cU b.loops:Int)-1)).toNat]?).bind λi0=>
   bif i0.op==37 then
    bif d.1.bool then
     (bz a.jC c.1).bind λj0=>
     (j0[(Wk.wrap ((cU b.loops:Int)-1)).toNat]?).bind λx=>
     (bz a.jC c.1).bind λl0=>
     (l0[(Wk.wrap ((cU b.loops:Int)-1)).toNat]?).bind λm0=>
     (bz a.jC c.1).bind λn0=>
     (n0[(Wk.wrap ((cU b.loops:Int)-1)).toNat]?).bind λo0=>
     (aR m0.fY (Wk.wrap (o0.dH-1))).bind λm=>
     (ad a.gls x.cx.aq).bind λn=>
     (cR (cE 8 (n.length+[m].length) 140737488355328)).bind λ_=>
     bw {a with gls:=ek a.gls x.cx.aq} λq=>
     (cR (!(n++[m]).isEmpty)).bind λ_=>
     bw {q with gls:=q.gls++[O (n++[m])]} λr=>
     (bz r.jC c.1).bind λy=>
     (y[(Wk.wrap ((cU b.loops:Int)-1)).toNat]?).bind λo=>
     bw {r with jC:=r.jC.set c.1 (O (y.set (Wk.wrap ((cU b.loops:Int)-1)).toNat (bJ.mk (fE.mk (O (q.gls.length,(n++[m]).length)) o.cx.sum) o.op o.fY o.dH)))} λp0=>
     g ((),p0)
    else
     (bz a.jC c.1).bind λq0=>
     (q0[(Wk.wrap ((cU b.loops:Int)-1)).toNat]?).bind λr0=>
     bif !(r0.op==37)then
      (bz a.jC c.1).bind λs0=>
      (s0[(Wk.wrap ((cU b.loops:Int)-1)).toNat]?).bind λt0=>
      bif (d.1.bool==(t0.op==35))then
       f.bind λu0=>
       (a.fj[u0]?).bind λv0=>
       (aR v0.c p.arg).bind λw0=>
       (GF N (f,w0.arg,d.1) a).bind λz=>
       O (z.1,z.2)
      else g ((),a)
     else g ((),a)
   else
    (bz a.jC c.1).bind λx0=>
    (x0[(Wk.wrap ((cU b.loops:Int)-1)).toNat]?).bind λy0=>
    bif !(y0.op==37)then
     (bz a.jC c.1).bind λA0=>
     (A0[(Wk.wrap ((cU b.loops:Int)-1)).toNat]?).bind λB0=>
     bif (d.1.bool==(B0.op==35))then
      f.bind λC0=>
      (a.fj[C0]?).bind λD0=>
      (aR D0.c p.arg).bind λE0=>
      (GF N (f,E0.arg,d.1) a).bind λA=>
      O (A.1,A.2)
     else g ((),a)
    else g ((),a)
abbrev afk:b7 U:=⟨[ahx,ahu],[.v .I],Y,.st (Lv N)⟩
def afl:Holds 140 (afk N):=gS N f140 (.q (.q (.q (.q (.q (.seq (O ⟨W,[],[],[],[]⟩) .aC .aC)))))) (cn (Yn N) (cn (aax N) nl))
end
end Go.Proofs.Mo
namespace Go.Proofs.Mo
open Go Go.Ev Go.X
variable{v:eT}{L:Z bk}{s0 st:Z eT}{CX eB f s a n:Int}{i j to:Nat}{gls gls':Z (V (Z Int))}{cl:bk}{α:Type}{P P':Z db}{p:V (Nat×Nat)}
structure PL where
 aq:List Int
 sum:Int
 op:Int
 fY:List Int
 dH:Int
variable{ls Tn:Z PL}
structure KS where
 eB:Int
 stack:List eT
 loops:List PL
variable{k' k:KS}
structure Gm where
 m:hD
 c:List c8
 self:Int
 below:cI->cI->Bool
 under:Int->List Int
 jt:List (Int×Nd)
variable{G:Gm}
def KS.push (k:KS) (v:eT):KS:={k with stack:=k.stack++[v]}
def KS.top (k:KS):eT:=k.stack.getLastD ⟨0,0,[],F,0,[]⟩
def KS.qB (k:KS):KS:={k with stack:=k.stack.dropLast}
def KS.loop (k:KS):PL:=k.loops.getLastD ⟨[],0,0,[],0⟩
def KS.kQ (k:KS) (l:PL):KS:={k with loops:=k.loops.dropLast++[l]}
def KS.I7 (k:KS) (to:Int) (v:eT):KS:={eB:=to,stack:=k.stack++[v],loops:=k.loops.dropLast}
def KS.go (k:KS) (to:Int):KS:={k with eB:=to}
def afm:Nd:=⟨0,[],0,[],[],[],[]⟩
def zi(n:Int):eT:=⟨1,n,[],F,0,[]⟩
def sV(s:cI):eT:=⟨2,0,s,F,0,[]⟩
def af(b:tl):eT:=⟨3,0,[],b,0,[]⟩
def nD(i:Int):eT:=⟨4,0,[],F,i,[]⟩
def Cl(l:Z Int):eT:=⟨5,0,[],F,0,l⟩
def Gm.nd (G:Gm) (i:Int):Nd:=(a8 bp G.jt i).getD afm
def p8(G:Gm)(v:eT)(f:Nd->jK KS):jK KS:=
 if v.kind=4 then match a8 bp G.jt v.node with
  |none=>.gd 102|some n=>f n
 else .gd 90
def Lw(G:Gm)(x:c8)(k:KS):jK KS:=p8 G k.top λn=>
 if x.op=10 then .ok 0 (k.qB.push (sV (n.bl.foldl (λs p=>if p.name=x.text then p.value else s) [])))
 else if x.op=11 then .ok 0 (k.qB.push (Cl (n.bj.filter λq=>(G.nd q).role==x.text)))
 else if x.op=12 then .ok 0 (k.qB.push (nD (n.ab.foldl (λto f=>if f.role=x.text/\(a8 bp G.jt f.target).isSome=W then f.target else to) 0)))
 else if x.op=13 then .ok 0 (k.qB.push (nD n.cQ))
 else if x.op=14 then .ok 0 (k.qB.push (af (G.below n.aw x.text)))
 else .ok (G.under n.iD).length (k.qB.push (Cl ((G.under n.iD).filter λq=>G.below (G.nd q).aw x.text)))
def wa(G:Gm)(x:c8)(k:KS):jK KS:=
 if x.op=19 then p8 G k.top λn=>.ok 0 (k.qB.push (sV n.aw))
 else if x.op=20 then p8 G k.top λn=>.ok 0 (k.qB.push (zi n.iD))
 else if x.op=16 then(if k.top.kind=5 then .ok 0 (k.qB.push (zi k.top.aq.length))else .gd 90)
 else if x.op=17 then(if k.top.kind=5 then .ok 0 (k.qB.push (nD (k.top.aq.headD 0)))else .gd 90)
 else if x.op=18 then(if k.top.kind=1 then .ok 0 (k.qB.push (sV (Lib.itoa k.top.int)))else .gd 90)
 else if k.top.kind=2 then(if(mM k.top.text).2=0 then .ok 0 (k.qB.push (zi (mM k.top.text).1))else .gd 103)
 else .gd 90
def Dq(N:Nat)(x:c8)(k:KS):jK KS:=match RW N (x.op,k.qB.top,k.top)with
 |some (v,e)=>if e=0 then .ok 0 (k.qB.qB.push v)else .gd e|none=>.gd 1
def hY(x:c8)(k:KS):jK KS:=
 if x.op=34 then .ok 0 (k.go x.arg)
 else if k.top.kind=3 then
  if x.op=29 then .ok 0 (k.qB.push (af (!k.top.bool)))
  else if x.op=32 then .ok 0 (k.qB.push k.top)
  else if x.op=33 then(if k.top.bool=W then .ok 0 k.qB else .ok 0 (k.qB.go x.arg))
  else if k.top.bool=(x.op==31)then .ok 0 ((k.qB.go x.arg).push k.top)
  else .ok 0 k.qB
 else .gd 90
def yI(x:c8)(k:KS):jK KS:=if k.top.kind=5 then .ok 0 {k.qB with loops:=k.loops++[⟨[],0,x.op,k.top.aq,0⟩]}else .gd 90
def zj(l:PL):eT:=if l.op=37 then Cl l.aq else if l.op=38 then zi l.sum else af (l.op==36)
def yJ(x:c8)(k:KS):jK KS:=
 if k.loop.dH<k.loop.fY.length then .ok 1 (k.kQ {k.loop with dH:=k.loop.dH+1})
 else .ok 0 (k.I7 x.arg (zj k.loop))
def yK(n s:Int):Prop:=0<n/\9223372036854775807-n<s∨n<0/\s< -9223372036854775808-n
instance(n s:Int):Decidable (yK n s):=inferInstanceAs (Decidable (_∨_))
def yL(G:Gm)(x:c8)(k:KS):jK KS:=
 if k.loop.op=38 then
  if k.top.kind=1 then
   if yK k.top.int k.loop.sum then .gd 101
   else .ok 0 ((k.qB.go x.arg).kQ {k.loop with sum:=k.loop.sum+k.top.int})
  else .gd 90
 else if k.top.kind=3 then
  if k.loop.op=37 then(if k.top.bool=W then .ok 0 ((k.qB.go x.arg).kQ {k.loop with aq:=k.loop.aq++[k.loop.fY.getD (k.loop.dH-1).toNat 0]})else .ok 0 (k.qB.go x.arg))
  else if k.top.bool=(k.loop.op==35)then .ok 0 (k.qB.I7 (G.c.getD x.arg.toNat ⟨0,0,0,[]⟩).arg k.top)
  else .ok 0 (k.qB.go x.arg)
 else .gd 90
def Cm(x:c8)(k:KS):jK KS:=
 let l:=k.loops.getD (k.loops.length-1-x.arg.toNat) ⟨[],0,0,[],0⟩
 .ok 0 (k.push (nD (l.fY.getD (l.dH-1).toNat 0)))
def fI(N:Nat)(G:Gm)(x:c8)(k:KS):jK KS:=
 if x.op=1 then .ok x.arg k
 else if x.op=2 then .ok 0 (k.push (zi x.int))
 else if x.op=3 then .ok 0 (k.push (sV x.text))
 else if x.op=4 then .ok 0 (k.push (af W))
 else if x.op=5 then .ok 0 (k.push (af F))
 else if x.op=6 then .ok 0 (k.push (nD G.self))
 else if x.op=7 then .ok 0 (k.push (nD 0))
 else if x.op=8 then Cm x k
 else if x.op=9 then .gd 91
 else if x.op<=15 then Lw G x k
 else if x.op<=21 then wa G x k
 else if x.op<=28 then Dq N x k
 else if x.op<=34 then hY x k
 else if x.op<=38 then yI x k
 else if x.op=39 then yJ x k
 else yL G x k
def dK(p:Z bk):Int:=match p.getLast? with
 |none=>0|some l=>l.base
inductive yM(c:List c8)(P:List db)(i:Nat)(h:Int)(L:List bk)(x:c8):Prop
 |same (ho:x.op=1∨x.op=29∨x.op=32∨10<=x.op/\x.op<=21) (hn:x.op≠1->dK L+1<=h) (h1:P[i+1]?=O ⟨W,h,L⟩)
 |load (ho:x.op=8) (ha:x.arg<L.length) (h1:P[i+1]?=O ⟨W,h+1,L⟩)
 |put (ho:2<=x.op/\x.op<=7∨x.op=9) (h1:P[i+1]?=O ⟨W,h+1,L⟩)
 |fO (ho:22<=x.op/\x.op<=28) (hn:dK L+2<=h) (h1:P[i+1]?=O ⟨W,h-1,L⟩)
 |sW (ho:x.op=30∨x.op=31) (hn:dK L+1<=h) (ha:(i:Int)<x.arg) (h1:P[x.arg.toNat]?=O ⟨W,h,L⟩) (h2:P[i+1]?=O ⟨W,h-1,L⟩)
 |acq (ho:x.op=33) (hn:dK L+1<=h) (ha:(i:Int)<x.arg) (h1:P[x.arg.toNat]?=O ⟨W,h-1,L⟩) (h2:P[i+1]?=O ⟨W,h-1,L⟩)
 |Dr (ho:x.op=34) (ha:(i:Int)<x.arg) (h1:P[x.arg.toNat]?=O ⟨W,h,L⟩)
 |loop (ho:35<=x.op/\x.op<=38) (hn:dK L+1<=h) (hc:∃y,c[i+1]?=O y/\y.op=39) (h1:P[i+1]?=O ⟨W,h-1,L++[⟨h-1,i+1⟩]⟩)
 |next (ho:x.op=39) (L0:List bk) (l:bk) (hl:L=L0++[l]) (hi:l.next=i) (hh:h=l.base) (ha:(i:Int)<x.arg) (h1:P[x.arg.toNat]?=O ⟨W,l.base+1,L0⟩) (h2:P[i+1]?=O ⟨W,l.base,L⟩)
 |take (ho:x.op=40) (L0:List bk) (l:bk) (hl:L=L0++[l]) (hi:x.arg=l.next) (hh:h=l.base+1)
structure GG(c:List c8)(P:List db)(i:Nat)(L:List bk)(j:Nat)(l:bk):Prop where
 base:0<=l.base
 next:1<=l.next
 upto:l.next<=i
 jw:P[l.next.toNat]?=O ⟨W,l.base,L.take (j+1)⟩
 pX:∃y,c[l.next.toNat]?=O y/\y.op=39
structure kK(c:List c8)(P:List db)(i:Nat)(h:Int)(L:List bk):Prop where
 h0:0<=h
 h1:h<=i
 len:L.length<=i
 loops:∀(j:Nat)(l:bk),L[j]?=O l->GG c P i L j l
structure hZ(x:c8):Prop where
 op:1<=x.op/\x.op<=40
 arg:0<=x.arg
 step:x.op=1->0<x.arg
structure pq(c:List c8)(P:List db):Prop where
 len:P.length=c.length+1
 oo:c.length<=1024
 first:P[0]?=O ⟨W,0,[]⟩
 aay:P[c.length]?=O ⟨W,1,[]⟩
 jw:∀(i:Nat)(h:Int)(L:List bk),P[i]?=O ⟨W,h,L⟩->kK c P i h L
 pX:∀(i:Nat)(x:c8),c[i]?=O x->∃h L,P[i]?=O ⟨W,h,L⟩/\hZ x/\yM c P i h L x
abbrev jc(n:Int):Prop:=-9223372036854775808<=n/\n<=9223372036854775807
structure qC(v:eT):Prop where
 text:v.text.length<=1048576
 aq:v.aq.length<=1048576
 int:jc v.int
structure Yq(eB:Int)(cl:bk)(l:PL):Prop where
 op:35<=l.op/\l.op<=38
 b0:0<=l.dH
 b1:l.dH<=l.fY.length
 bn:l.dH<=l.aq.length->cl.next=eB
 aq:l.aq.length<=l.dH
 fY:l.fY.length<=1048576
 sum:jc l.sum
def pr(eB:Int)(L:Z bk)(ls:Z PL):Prop:=L.length=ls.length/\∀(j:Nat)(cl:bk)(l:PL),L[j]?=O cl->ls[j]?=O l->Yq eB cl l
structure Cn(c:List c8)(P:List db)(k:KS):Prop where
 at0:0<=k.eB
 jw:∃L,P[k.eB.toNat]?=O ⟨W,k.stack.length,L⟩/\pr k.eB L k.loops
 aaz:∀v∈k.stack,qC v
def mu(c:Z c8)(f s:Int)(k:KS):Int:=3000*(f-s)+1025*(k.loops.countP λl=>decide (1<=l.dH))+if(c.getD k.eB.toNat ⟨0,0,0,[]⟩).op=39/\1<=k.loop.dH then 0 else c.length-k.eB
structure Y5(n:Nd):Prop where
 iD:jc n.iD
 aw:n.aw.length<=1048576
 cQ:jc n.cQ
 bl:n.bl.length<=1048576/\∀p∈n.bl,p.value.length<=1048576
 bj:n.bj.length<=1048576
 ab:n.ab.length<=1048576
structure Ds(G:Gm):Prop where
 jt:∀i n,a8 bp G.jt i=O n->Y5 n
 afn:∀x∈G.c,x.text.length<=1048576/\jc x.int
def pr.OP {l:PL} (h:pr eB L ls) (f:Yq eB cl l):pr eB (L++[cl]) (ls++[l]):=by
 obtain⟨e,g⟩:=h;refine⟨by simp[e],λj a b c d=>?_⟩;by_cases i:j<L.length
 .rw[fx i]at c;rw[fx M]at d;exact g j a b c d
 .have k:=(aY.1 c).1;simp only[ey,ec,kU]at k;have m:j=L.length:=M;subst m;rw[im (a6 _)]at c;rw[e,im (a6 _)]at d;simp at c d;subst c d;exact f
def pr.h5 (h:pr eB (L++[cl]) ls):∃e l,ls=e++[l]/\pr eB L e/\Yq eB cl l:=by
 obtain⟨c,f⟩:=h;have g:ls≠[]:=by rintro rfl;simp at c
 refine⟨ls.dropLast,ls.getLast g,(V3 g).symm,⟨?_,λj a b i d=>?_⟩,?_⟩
 .rw[PB];simp at c;omega
 .have m:=(aY.1 i).1;have k:=(aY.1 d).1;refine f j a b (by rw[fx m];exact i) ?_;rw[List.getElem?_dropLast,aj (by rw[PB]at k;exact k)]at d;exact d
 .refine f L.length cl _ aE ?_;simp at c;rw[List.getLast_eq_getElem];have:L.length=ls.length-1:=M;rw[this];exact bS M
def pr.at {f:Int} (h:pr eB L ls) (g:∀(j:Nat)(cl:bk)(l:PL),L[j]?=O cl->ls[j]?=O l->(l.aq.length:Int)<l.dH):pr f L ls:=⟨h.1,λj a b c d=>by have:=h.2 j a b c d;exact⟨this.op,this.b0,this.b1,λe=>by have:=g j a b c d;omega,this.aq,this.fY,this.sum⟩⟩
section
variable{c:Z c8}{P:Z db}{k:KS}{x:c8}
def wb(d:pq c P){h:Int}(f:P[i]?=O ⟨W,h,L⟩)(g:pr i L ls)(k:∀y,c[i]?=O y->y.op≠39):
  ∀(j:Nat)(cl:bk)(l:PL),L[j]?=O cl->ls[j]?=O l->(l.aq.length:Int)<l.dH:=λj cl l a m=>by
 have n:=g.2 j cl l a m;by_cases e:l.dH<=l.aq.length
 .have o:=n.bn e;obtain⟨y,b,p⟩:=((d.jw i h L f).loops j cl a).pX;rw[o,dV]at b;exact(k y b p).elim
 .omega
def OQ(g:pq c P){h:Int}{d:bk}(k:P[i]?=O ⟨W,h,L++[d]⟩)(hi:d.next=i)(m:pr i L ls):
  ∀(j:Nat)(cl:bk)(l:PL),L[j]?=O cl->ls[j]?=O l->(l.aq.length:Int)<l.dH:=λj cl l f n=>by
 have o:=m.2 j cl l f n;by_cases e:l.dH<=l.aq.length
 .have p:=o.bn e;have q:=(aY.1 f).1;have a:=((g.jw i h _ k).loops j cl (by rw[fx q];exact f)).jw;have b:=((g.jw i h _ k).loops L.length d aE).jw;rw[p]at a;rw[hi]at b;rw[a]at b;have:=bH List.length (db.mk.inj (cr b)).2.2;simp only[jE,ey,ec,kU]at this;omega
 .omega
def zD(l:Z α)(x d:α):(l++[x]).getLastD d=x:=by simp[List.getLastD_eq_getLast?]
def fP(h:1<=st.length):∃s v,st=s++[v]:=by
 have a:st≠[]:=by rintro rfl;simp at h
 exact⟨st.dropLast,st.getLast a,(V3 a).symm⟩
def Ew(c:Z c8)(f s:Int)(k:KS)(h:k.eB<=c.length):mu c f s k<=3000*(f-s)+1025*(k.loops.countP λl=>decide (1<=l.dH))+(c.length-k.eB):=by unfold mu;split<;>omega
def Wh{c:Z c8}{k:KS}(h:¬((c.getD k.eB.toNat ⟨0,0,0,[]⟩).op=39/\1<=k.loop.dH)):mu c f s k=3000*(f-s)+1025*(k.loops.countP λl=>decide (1<=l.dH))+(c.length-k.eB):=by unfold mu;rw[ai h]
def RX{c:Z c8}{k:KS}(h:(c.getD k.eB.toNat ⟨0,0,0,[]⟩).op=39/\1<=k.loop.dH):mu c f s k=3000*(f-s)+1025*(k.loops.countP λl=>decide (1<=l.dH)):=by unfold mu;rw[aj h];omega
def JF{l:Z α}{x d:α}(h:l[i]?=O x):l.getD i d=x:=by simp[qo,h]
end
def aaA(x:Int):jc (IntKind.i64.wrap x):=by unfold IntKind.wrap jc;simp[IntKind.bits,IntKind.signed];split<;>omega
def sh(h:jc n):qC (zi n):=⟨by simp[zi],by simp[zi],h⟩
def rM{s:cI}(h:s.length<=1048576):qC (sV s):=⟨h,by simp[sV],by simp[sV,jc]⟩
def nE(b:tl):qC (af b):=⟨by simp[af],by simp[af],by simp[af,jc]⟩
def pt(i:Int):qC (nD i):=⟨by simp[nD],by simp[nD],by simp[nD,jc]⟩
def Co{l:Z Int}(h:l.length<=1048576):qC (Cl l):=⟨by simp[Cl],h,by simp[Cl,jc]⟩
def I8:qC ⟨0,0,[],F,0,[]⟩:=⟨aE,aE,by simp[jc]⟩
section
variable(N:Nat)
def aaB(a b:Int):T (Yp N (a,b)) λ_=>True:=⟨_,rfl,trivial⟩
def Wi(a:Int):T (Vi N a) λ_=>True:=ao (λ_=>ag trivial) λ_=>ag trivial
def aaC(o a b:Int):T (Vj N (o,a,b)) λr=>qC r.1:=by
 have d:∀(k:eT->V (eT×Int))(x:Int),(∀y,k y=O (y,0))->T ((p7 N (IntKind.i64.wrap x)).bind k) λr=>qC r.1:=λk x e=>by show T (k (zi _)) _;rw[e];exact ag (sh (aaA x))
 have f:∀(k:eT->V (eT×Int))(x:tl),(∀y,k y=O (y,0))->T ((jv N x).bind k) λr=>qC r.1:=λk x e=>by show T (k (af _)) _;rw[e];exact ag (nE x)
 unfold Vj;refine az (λ_=>True) (λJ c=>?_) λ_ _=>ag I8;refine ao (λ_=>f _ _ λ_=>rfl) λ_=>ao (λ_=>f _ _ λ_=>rfl) λ_=>ao (λ_=>ao (λ_=>d _ _ λ_=>rfl) λ_=>c _ trivial) λ_=>ao (λ_=>ao (λ_=>d _ _ λ_=>rfl) λ_=>c _ trivial) λ_=>ao (λ_=>?_) λ_=>c _ trivial;exact aF (Wi N a) λy _=>aF (Wi N b) λz _=>aF (aaB N y z) λw _=>ao (λ_=>ao (λ_=>d _ _ λ_=>rfl) λ_=>ao (λ_=>ao (λ_=>d _ _ λ_=>rfl) λ_=>c _ trivial) λ_=>c _ trivial) λ_=>c _ trivial
def Wj(o:Int)(a b:eT)(j:qC a)(l:qC b):T (RW N (o,a,b)) λr=>qC r.1:=by
 have c:∀(k:eT->V (eT×Int))(x:tl),(∀y,k y=O (y,0))->T ((jv N x).bind k) λr=>qC r.1:=λk x d=>by show T (k (af _)) _;rw[d];exact ag (nE x)
 have f:∀e:Int,T (O ((⟨0,0,[],F,0,[]⟩:eT),e)) λr=>qC r.1:=λe=>ag I8;have eq:∀(o:Int)(k:eT->V (eT×Int)),(∀y,k y=O (y,0))->T (bif a.kind==5 then O ((⟨0,0,[],F,0,[]⟩:eT),(90:Int))else bif a.int==b.int then bif a.text==b.text then bif a.bool==b.bool then(jv N ((a.node==b.node)==(o==25))).bind k else(jv N (F==(o==25))).bind k else(jv N (F==(o==25))).bind k else(jv N (F==(o==25))).bind k) λr=>qC r.1:=λo k d=>ao (λ_=>f _) λ_=>ao (λ_=>ao (λ_=>ao (λ_=>c _ _ d) λ_=>c _ _ d) λ_=>c _ _ d) λ_=>c _ _ d;unfold RW;refine ao (λ_=>f _) λ_=>ao (λ_=>eq o _ λ_=>rfl) λ_=>ao (λ_=>eq o _ λ_=>rfl) λ_=>ao (λ_=>aF (aaC N o a.int b.int) λy m=>ag m) λ_=>?_;have g:T (bif a.kind==2 then bif o==28 then(jv N (Op.bytesLess a.text b.text||a.text==b.text)).bind λy=>O (y,(0:Int))else O ((⟨0,0,[],F,0,[]⟩:eT),90)else O ((⟨0,0,[],F,0,[]⟩:eT),90)) λr=>qC r.1:=ao (λ_=>ao (λ_=>c _ _ λ_=>rfl) λ_=>f _) λ_=>f _;have h:T (bif a.kind==2 then bif o==27 then(jv N (Op.bytesLess a.text b.text)).bind λy=>O (y,(0:Int))else(bif a.kind==2 then bif o==28 then(jv N (Op.bytesLess a.text b.text||a.text==b.text)).bind λy=>O (y,(0:Int))else O ((⟨0,0,[],F,0,[]⟩:eT),90)else O ((⟨0,0,[],F,0,[]⟩:eT),90))else(bif a.kind==2 then bif o==28 then(jv N (Op.bytesLess a.text b.text||a.text==b.text)).bind λy=>O (y,(0:Int))else O ((⟨0,0,[],F,0,[]⟩:eT),90)else O ((⟨0,0,[],F,0,[]⟩:eT),90))) λr=>qC r.1:=ao (λ_=>ao (λ_=>c _ _ λ_=>rfl) λ_=>g) λ_=>g;refine ao (λ_=>ao (λ_=>ao (λ_=>f _) λi=>?_) λ_=>h) λ_=>h;have n:=j.text;have p:=l.text;simp only[cY,iB]at i;rw[fG M M]at i;refine bY (jg (fk (show a.text.length+b.text.length<=4096 by omega) cd)) ?_;show T (O (sV _,(0:Int))) _;exact ag (rM (by simp only[ey];omega))
end
def No(c:Z c8)(P:Z db)(f s:Int)(k:KS)(CX:Int)(k':KS):Prop:=Cn c P k'/\mu c f (s+CX) k'<mu c f s k/\0<=CX/\1<=k'.eB
section
variable{c:Z c8}{P:Z db}{i:Nat}{st:Z eT}{ls:Z PL}{L:Z bk}{x:c8}{f s:Int}
def GH(a:c[i]?=O x)(b:x.op≠39):mu c f s ⟨i,st,ls⟩=3000*(f-s)+1025*(ls.countP λl=>decide (1<=l.dH))+(c.length-i):=Wh (by show¬((c.getD (i:Int).toNat _).op=39/\_);rw[dV,JF a];exactλh=>b h.1)
def RY(a:pq c P){p:db}(h:P[j]?=O p):j<=c.length:=by have:=(aY.1 h).1;have:=a.len;omega
def Pp(a:pq c P)(b:c[i]?=O x)(d:x.op≠39)(l:P[i]?=O ⟨W,(st.length:Int),L⟩)(g:pr i L ls){st':Z eT}(p:i<j)
  (h:P[j]?=O ⟨W,(st'.length:Int),L⟩) (hv:∀v∈st',qC v) (m:0<=CX):No c P f s ⟨i,st,ls⟩ CX ⟨j,st',ls⟩:=by
 have n:=wb a l g λy k=>by rw[b]at k;cases k;exact d
 have q:=RY a h;refine⟨⟨M4 _,⟨L,by show P[(j:Int).toNat]?=_;rw[dV];exact h,g.at n⟩,hv⟩,?_,m,by show 1<=(j:Int);omega⟩;rw[GH b d];have:=Ew c f (s+CX) ⟨j,st',ls⟩ (by show(j:Int)<=_;omega);have e:(⟨j,st',ls⟩:KS).eB=j:=rfl;have o:(⟨j,st',ls⟩:KS).loops=ls:=rfl;rw[e,o]at this;omega
def GI(b:Ds G){a:Nd->jK KS}(h:p8 G v a=.ok CX k'):∃n,Y5 n/\a n=.ok CX k':=by
 unfold p8 at h;split at h
 .split at h
  .cases h
  .rename_i n c;exact⟨n,b.jt _ _ c,h⟩
 .cases h
def Ey{t:cI}:∀(l:Z Dm)(s:cI),s.length<=1048576->(∀p∈l,p.value.length<=1048576)->(l.foldl (λs p=>if p.name=t then p.value else s) s).length<=1048576
 |[],s,h,_=>h|p::l,s,h,a=>by
  rw[sE];refine Ey l _ ?_ λq b=>a q (by simp[b]);split
  .exact a p aE
  .exact h
def Yr(d:Ds G)(h:Lw G x ⟨a,s0++[v],ls⟩=.ok CX k')(f:CX<=1048576):∃b,k'=⟨a,s0++[b],ls⟩/\qC b/\0<=CX:=by
 obtain⟨n,c,h⟩:=GI d h;have e:∀w,(KS.qB ⟨a,s0++[v],ls⟩).push w=⟨a,s0++[w],ls⟩:=λw=>by simp[KS.qB,KS.push]
 simp only[e]at h;split at h
 .simp only[jK.ok.injEq]at h;obtain⟨rfl,rfl⟩:=h;exact⟨_,rfl,rM (Ey _ _ aE c.bl.2),M⟩
 split at h
 .simp only[jK.ok.injEq]at h;obtain⟨rfl,rfl⟩:=h;exact⟨_,rfl,Co (fk (Hi _ _) c.bj),M⟩
 split at h
 .simp only[jK.ok.injEq]at h;obtain⟨rfl,rfl⟩:=h;exact⟨_,rfl,pt _,M⟩
 split at h
 .simp only[jK.ok.injEq]at h;obtain⟨rfl,rfl⟩:=h;exact⟨_,rfl,pt _,M⟩
 split at h
 .simp only[jK.ok.injEq]at h;obtain⟨rfl,rfl⟩:=h;exact⟨_,rfl,nE _,M⟩
 .simp only[jK.ok.injEq]at h;obtain⟨rfl,rfl⟩:=h;exact⟨_,rfl,Co (fk (Hi _ _) M),M⟩
def Ys(l:Z NT):jc (mM l).1:=by
 unfold mM;split
 .simp[jc]
 .split
  .rename_i v hv;have:=Lib.parseIntB_bounds hv;split
   .simp only[jc];omega
   .simp[jc]
  .simp[jc]
def Vk(c:Ds G)(hv:qC v)(h:wa G x ⟨a,s0++[v],ls⟩=.ok CX k'):∃d,k'=⟨a,s0++[d],ls⟩/\qC d/\0<=CX:=by
 have e:∀w,(KS.qB ⟨a,s0++[v],ls⟩).push w=⟨a,s0++[w],ls⟩:=λw=>by simp[KS.qB,KS.push]
 have f:KS.top ⟨a,s0++[v],ls⟩=v:=zD _ _ _;unfold wa at h;simp only[e,f]at h;split at h
 .obtain ⟨n,b,h⟩:=GI c h;simp only[jK.ok.injEq]at h;obtain⟨rfl,rfl⟩:=h;exact⟨_,rfl,rM b.aw,M⟩
 split at h
 .obtain ⟨n,b,h⟩:=GI c h;simp only[jK.ok.injEq]at h;obtain⟨rfl,rfl⟩:=h;exact⟨_,rfl,sh b.iD,M⟩
 split at h
 .split at h
  .simp only[jK.ok.injEq]at h;obtain⟨rfl,rfl⟩:=h;have:=hv.aq;exact⟨_,rfl,sh (by simp only[jc];omega),M⟩
  .cases h
 split at h
 .split at h
  .simp only[jK.ok.injEq]at h;obtain⟨rfl,rfl⟩:=h;exact⟨_,rfl,pt _,M⟩
  .cases h
 split at h
 .split at h
  .simp only[jK.ok.injEq]at h;obtain⟨rfl,rfl⟩:=h;have:=Lib.itoa_length_le v.int hv.int.1 hv.int.2;exact⟨_,rfl,rM M,M⟩
  .cases h
 split at h
 .split at h
  .simp only[jK.ok.injEq]at h;obtain⟨rfl,rfl⟩:=h;exact⟨_,rfl,sh (Ys _),M⟩
  .cases h
 .cases h
def Yt{N:Nat}{w:eT}(hv:qC v)(c:qC w)(h:Dq N x ⟨a,s0++[v]++[w],ls⟩=.ok CX k'):∃b,k'=⟨a,s0++[b],ls⟩/\qC b/\0<=CX:=by
 have d:∀u,((KS.qB ⟨a,s0++[v]++[w],ls⟩).qB).push u=⟨a,s0++[u],ls⟩:=λw=>by simp[KS.qB,KS.push]
 have e:KS.top ⟨a,s0++[v]++[w],ls⟩=w:=zD _ _ _;have f:(KS.qB ⟨a,s0++[v]++[w],ls⟩).top=v:=by simp[KS.qB,KS.top]
 obtain⟨r,g,i⟩:=Wj N x.op v w hv c;unfold Dq at h;rw[e,f,g]at h;simp only[d]at h;split at h
 .simp only[jK.ok.injEq]at h;obtain⟨rfl,rfl⟩:=h;exact⟨_,rfl,i,M⟩
 .cases h
end
section
variable{N:Nat}{G:Gm}{x:c8}{k:KS}
def Lx(h:x.op=1):fI N G x k=.ok x.arg k:=by unfold fI;rw[aj h]
def Ly(h:x.op=8):fI N G x k=Cm x k:=by unfold fI;rw[ai M,ai M,ai M,ai M,ai M,ai M,ai M,aj h]
def Lz(h:x.op=9):fI N G x k=.gd 91:=by unfold fI;rw[ai M,ai M,ai M,ai M,ai M,ai M,ai M,ai M,aj h]
def lj(h:10<=x.op):fI N G x k=if x.op<=15 then Lw G x k
 else if x.op<=21 then wa G x k
 else if x.op<=28 then Dq N x k
 else if x.op<=34 then hY x k
 else if x.op<=38 then yI x k
 else if x.op=39 then yJ x k
 else yL G x k:=by
 unfold fI;rw[ai M,ai M,ai M,ai M,ai M,ai M,ai M,ai M,ai M]
def Cp(h:10<=x.op)(a:x.op<=15):fI N G x k=Lw G x k:=by rw[lj h,aj a]
def xE(h:16<=x.op)(a:x.op<=21):fI N G x k=wa G x k:=by rw[lj M,ai M,aj a]
def Cq(h:22<=x.op)(a:x.op<=28):fI N G x k=Dq N x k:=by rw[lj M,ai M,ai M,aj a]
def hR(h:29<=x.op)(a:x.op<=34):fI N G x k=hY x k:=by rw[lj M,ai M,ai M,ai M,aj a]
def xF(h:35<=x.op)(a:x.op<=38):fI N G x k=yI x k:=by rw[lj M,ai M,ai M,ai M,ai M,aj a]
def xG(h:x.op=39):fI N G x k=yJ x k:=by rw[lj M,ai M,ai M,ai M,ai M,ai M,aj h]
def xH(h:x.op=40):fI N G x k=yL G x k:=by rw[lj M,ai M,ai M,ai M,ai M,ai M,ai M]
end
def ll(a:Int)(s0:Z eT)(v:eT)(ls:Z PL):KS.top ⟨a,s0++[v],ls⟩=v:=zD _ _ _
def lm(a:Int)(s0:Z eT)(v:eT)(ls:Z PL):KS.qB ⟨a,s0++[v],ls⟩=⟨a,s0,ls⟩:=by simp[KS.qB]
def p9(a:Int)(st:Z eT)(ls:Z PL)(l:PL):KS.loop ⟨a,st,ls++[l]⟩=l:=zD _ _ _
def mN(a:Int)(st:Z eT)(ls:Z PL)(l l':PL):KS.kQ ⟨a,st,ls++[l]⟩ l'=⟨a,st,ls++[l']⟩:=by simp[KS.kQ]
def wc(a:Int)(st:Z eT)(ls:Z PL)(l:PL)(to:Int)(v:eT):KS.I7 ⟨a,st,ls++[l]⟩ to v=⟨to,st++[v],ls⟩:=by simp[KS.I7]
def lP(ls:Z PL)(l:PL):((ls++[l]).countP λl=>decide (1<=l.dH))=(ls.countP λl=>decide (1<=l.dH))+if 1<=l.dH then 1 else 0:=by rw[List.countP_append];by_cases h:1<=l.dH<;>simp[h]
def OR(L:Z bk)(l:bk):dK (L++[l])=l.base:=by simp[dK]
def Np{c:Z c8}{h:Int}(b:kK c P i h L):0<=dK L:=by
 unfold dK;split
 .omega
 .rename_i l a;rw[PA]at a;exact(b.loops _ _ a).base
def mX(h:∀u∈s0,qC u)(hv:qC v):∀u∈s0++[v],qC u:=λu hu=>by
 rcases dR.1 hu with hu|hu
 .exact h u hu
 .simp only[iC]at hu;rw[hu];exact hv
def iQ(h:∀u∈s0++[v],qC u):∀u∈s0,qC u:=λu a=>h u (by simp[a])
def kL(h:∀u∈s0++[v],qC u):qC v:=h v aE
def Vl{l:PL}(h:Yq eB cl l):qC (zj l):=by
 obtain⟨_,h0,h1,_,b,c,a⟩:=h;unfold zj;split
 .exact Co M
 split
 .exact sh a
 .exact nE _
def fv(s0:Z eT)(v:eT):(((s0++[v]).length:Nat):Int)=s0.length+1:=aE
section
variable{N:Nat}{G:Gm}{P:Z db}{f s:Int}
def Ez{m:Int}(a:jc n)(b:jc m)(h:¬yK n m):jc (m+n):=by unfold yK at h;unfold jc at*;omega
set_option maxHeartbeats 4000000 in
theorem EA{x:c8}(n:pq G.c P)(X:Ds G)(n0:Cn G.c P k)(g:G.c[k.eB.toNat]?=O x)(o0:CX<=1048576)(h:fI N G x (k.go (k.eB+1))=.ok CX k'):No G.c P f s k CX k':=by
 obtain⟨eB,st,ls⟩:=k;obtain⟨g0,⟨L,o,p⟩,hv⟩:=n0;dsimp only at g0 o p hv g;obtain⟨i,rfl⟩:=lG g0;rw[dV]at g o;obtain⟨h',N0,h0,Yu,hi⟩:=n.pX i x g;rw[o]at h0;obtain⟨_,rfl,rfl⟩:=db.mk.inj (cr h0);have i0:=n.jw i _ _ o;have j0:=X.afn x (bF g);have b0:=Np i0;have P0:=(aY.1 g).1;have Q0:=n.oo;have p0:KS.go ⟨i,st,ls⟩ ((i:Int)+1)=⟨((i+1:Nat):Int),st,ls⟩:=rfl;change fI N G x (KS.go ⟨i,st,ls⟩ ((i:Int)+1))=_ at h;rw[p0]at h;cases hi with
 |same d C c=>
  rcases d with d|d|d|⟨q0,t⟩
  .rw[Lx d]at h;simp only[jK.ok.injEq]at h;obtain⟨rfl,rfl⟩:=h;exact Pp n g M o p (gl i) c hv (by have:=Yu.arg;omega)
  .obtain ⟨s0,v,rfl⟩:=fP (st:=st) (by have:=C M;omega);rw[hR M M]at h;unfold hY at h;rw[ai M,ll,lm]at h;split at h
   .first|rw[aj d]at h|skip
    simp only[jK.ok.injEq]at h;obtain⟨rfl,rfl⟩:=h;exact Pp n g M o p (gl i) (st':=s0++[af (!v.bool)]) (by rw[fv]at c⊢;exact c) (mX (iQ hv) (nE _)) M
   .cases h
  .obtain ⟨s0,v,rfl⟩:=fP (st:=st) (by have:=C M;omega);rw[hR M M]at h;unfold hY at h;rw[ai M,ll,lm]at h;split at h
   .first|rw[ai M,aj d]at h|rw[ai M]at h
    simp only[jK.ok.injEq]at h;obtain⟨rfl,rfl⟩:=h;exact Pp n g M o p (gl i) (st':=s0++[v]) c hv M
   .cases h
  .obtain ⟨s0,v,rfl⟩:=fP (st:=st) (by have:=C M;omega);have D:∃u,k'=⟨((i+1:Nat):Int),s0++[u],ls⟩/\qC u/\0<=CX:=by
    by_cases e:x.op<=15
    .rw[Cp q0 e]at h;exact Yr X h o0
    .rw[xE M t]at h;exact Vk X (kL hv) h
   obtain⟨u,rfl,Q,c0⟩:=D;exact Pp n g M o p (gl i) (st':=s0++[u]) (by rw[fv]at c⊢;exact c) (mX (iQ hv) Q) c0
 |load d E c=>rw[Ly d]at h;simp only[Cm,jK.ok.injEq]at h;obtain⟨rfl,rfl⟩:=h;exact Pp n g M o p (gl i) (st':=st++[_]) (by rw[fv];exact c) (mX hv (pt _)) M|put d c=>
  have D:∀u,qC u->fI N G x ⟨((i+1:Nat):Int),st,ls⟩=.ok 0 (KS.push ⟨((i+1:Nat):Int),st,ls⟩ u)->No G.c P f s ⟨i,st,ls⟩ CX k':=λu Q e=>by rw[e]at h;simp only[jK.ok.injEq]at h;obtain⟨rfl,rfl⟩:=h;exact Pp n g M o p (gl i) (st':=st++[u]) (by rw[fv];exact c) (mX hv Q) M
  have r0:x.op=2∨x.op=3∨x.op=4∨x.op=5∨x.op=6∨x.op=7∨x.op=9:=M;rcases r0 with e|e|e|e|e|e|e
  .exact D _ (sh j0.2) (by simp[fI,e])
  .exact D _ (rM j0.1) (by simp[fI,e])
  .exact D _ (nE W) (by simp[fI,e])
  .exact D _ (nE F) (by simp[fI,e])
  .exact D _ (pt G.self) (by simp[fI,e])
  .exact D _ (pt 0) (by simp[fI,e])
  .rw[Lz e]at h;cases h
 |fO d C c=>obtain⟨t0,w,rfl⟩:=fP (st:=st) M;rw[fv]at C;obtain⟨s0,v,rfl⟩:=fP (st:=t0) M;rw[Cq d.1 d.2]at h;obtain⟨u,rfl,Q,c0⟩:=Yt (kL (iQ hv)) (kL hv) h;exact Pp n g M o p (gl i) (st':=s0++[u]) (by rw[fv,fv]at c;rw[fv,c];congr 2;omega) (mX (iQ (iQ hv)) Q) c0|sW d C E c H=>
  obtain⟨s0,v,rfl⟩:=fP (st:=st) M;rw[hR M M]at h;unfold hY at h;rw[ai M,ll,lm]at h;split at h
  .first|rw[ai M,ai M,ai M]at h|skip
   obtain⟨j,r⟩:=lG (show 0<=x.arg by omega);rw[r]at h E c;rw[dV]at c;split at h
   .simp only[jK.ok.injEq]at h;obtain⟨rfl,rfl⟩:=h;exact Pp n g M o p (j:=j) M (st':=s0++[v]) c hv M
   .simp only[jK.ok.injEq]at h;obtain⟨rfl,rfl⟩:=h;exact Pp n g M o p (gl i) (st':=s0) (by rw[H,fv];congr 2;omega) (iQ hv) M
  .cases h
 |acq d C E c H=>
  obtain⟨s0,v,rfl⟩:=fP (st:=st) M;rw[hR M M]at h;unfold hY at h;rw[ai M,ll,lm]at h;split at h
  .first|rw[ai M,ai M,aj d]at h|rw[ai M,ai M]at h
   obtain⟨j,r⟩:=lG (show 0<=x.arg by omega);rw[r]at h E c;rw[dV]at c;split at h
   .simp only[jK.ok.injEq]at h;obtain⟨rfl,rfl⟩:=h;exact Pp n g M o p (gl i) (st':=s0) (by rw[H,fv];congr 2;omega) (iQ hv) M
   .simp only[jK.ok.injEq]at h;obtain⟨rfl,rfl⟩:=h;exact Pp n g M o p (j:=j) M (st':=s0) (by rw[c,fv];congr 2;omega) (iQ hv) M
  .cases h
 |Dr d E c=>rw[hR M M]at h;unfold hY at h;rw[aj d]at h;obtain⟨j,r⟩:=lG (show 0<=x.arg by omega);rw[r]at h E c;rw[dV]at c;simp only[jK.ok.injEq]at h;obtain⟨rfl,rfl⟩:=h;exact Pp n g M o p (j:=j) M (st':=st) c hv M|loop d C R0 c=>
  obtain⟨s0,v,rfl⟩:=fP (st:=st) M;rw[xF d.1 d.2]at h;unfold yI at h;rw[ll,lm]at h;split at h
  .simp only[jK.ok.injEq]at h;obtain⟨rfl,rfl⟩:=h;have A:=wb n o p λy z=>by rw[g]at z;cases z;omega
   have u0:Yq ((i+1:Nat):Int) ⟨((s0++[v]).length:Int)-1,(i:Int)+1⟩ ⟨[],0,x.op,v.aq,0⟩:=⟨d,aE,aE,λ_=>rfl,aE,(kL hv).aq,by simp[jc]⟩
   refine⟨⟨M4 _,⟨_,?_,(p.at A).OP u0⟩,iQ hv⟩,?_,M,?_⟩
   .show P[((i+1:Nat):Int).toNat]?=_;rw[dV,c];congr 2;show((s0++[v]).length:Int)-1=(s0.length:Int)
    rw[fv];omega
   .rw[GH g M];have:=Ew G.c f (s+0) ⟨((i+1:Nat):Int),s0,ls++[⟨[],0,x.op,v.aq,0⟩]⟩ (by show((i+1:Nat):Int)<=_;omega);dsimp only at this;rw[lP,ai aE]at this;show mu G.c f (s+0) ⟨((i+1:Nat):Int),s0,ls++[⟨[],0,x.op,v.aq,0⟩]⟩<_;omega
   .show 1<=((i+1:Nat):Int);omega
  .cases h
 |next d I l d0 hi e0 E c H=>
  subst d0;obtain⟨q,pl,rfl,J,B⟩:=p.h5;have l0:=OQ n o hi J;rw[xG d]at h;unfold yJ at h;rw[p9,mN,wc]at h;have R:=RY n c;split at h
  .rename_i S0;simp only[jK.ok.injEq]at h;obtain⟨rfl,rfl⟩:=h;obtain⟨q1,T0,U0,X0,a1,v0,w0⟩:=B;refine⟨⟨M4 _,⟨I++[l],?_,(J.at l0).OP ⟨q1,dY,dY,λe=>by dsimp only at e;omega,dY,v0,w0⟩⟩,hv⟩,?_,M,?_⟩
   .show P[((i+1:Nat):Int).toNat]?=_;rw[dV,H,e0]
   .have a:=Ew G.c f (s+1) ⟨((i+1:Nat):Int),st,q++[{pl with dH:=pl.dH+1}]⟩ (by show((i+1:Nat):Int)<=_;omega);dsimp only at a;rw[lP]at a;dsimp only at a;rw[aj M]at a;have b:3000*(f-s)+1025*(q.countP λl=>decide (1<=l.dH))<=mu G.c f s ⟨i,st,q++[pl]⟩:=by unfold mu;dsimp only;rw[lP];split<;>split<;>omega
    omega
   .show 1<=((i+1:Nat):Int);omega
  .rename_i b1;simp only[jK.ok.injEq]at h;obtain⟨rfl,rfl⟩:=h;obtain⟨j,r⟩:=lG (show 0<=x.arg by omega);rw[r]at E c R⊢;rw[dV]at c R;refine⟨⟨M4 _,⟨I,?_,J.at l0⟩,mX hv (Vl B)⟩,?_,M,by show 1<=(j:Int);omega⟩
   .show P[(j:Int).toNat]?=_;rw[dV,c];congr 2;show l.base+1=((st++[zj pl]).length:Int)
    rw[fv];omega
   .have a:=Ew G.c f (s+0) ⟨(j:Int),st++[zj pl],q⟩ (by show(j:Int)<=_;omega);dsimp only at a;show mu G.c f (s+0) ⟨(j:Int),st++[zj pl],q⟩<_;by_cases A:1<=pl.dH
    .have b:mu G.c f s ⟨i,st,q++[pl]⟩=_:=RX (by show(G.c.getD (i:Int).toNat _).op=39/\_;rw[dV,JF g,p9];exact⟨d,A⟩);rw[b];dsimp only;rw[lP,aj A];omega
    .have b:mu G.c f s ⟨i,st,q++[pl]⟩=_:=Wh (by show¬(_/\_);rw[p9];exactλh=>A h.2);rw[b];dsimp only;rw[lP,ai A];omega
 |take d I l d0 hi e0=>
  subst d0;obtain⟨q,pl,rfl,J,B⟩:=p.h5;have x0:=i0.loops I.length l aE;obtain⟨c1,d1,f1,S,y,z,y0⟩:=x0;rw[dh aE]at S;obtain⟨s0,v,rfl⟩:=fP (st:=st) M;rw[fv]at e0;have A:=wb n o p λy z=>by rw[g]at z;cases z;omega
  have b0:∀(j:Nat)(cl:bk)(l':PL),I[j]?=O cl->q[j]?=O l'->(l'.aq.length:Int)<l'.dH:=λj cl l' c H=>by have a:=(aY.1 c).1;have b:=(aY.1 H).1;exact A j cl l' (by rw[fx a];exact c) (by rw[fx b];exact H)
  have g1:(pl.aq.length:Int)<pl.dH:=A I.length l pl aE (by rw[J.1];simp);have A0:1<=pl.dH:=M;rw[xH d]at h;unfold yL at h;rw[p9,ll,lm]at h;obtain⟨j,r⟩:=lG (show 0<=l.next by omega);rw[r,dV]at S z;have B0:KS.go ⟨((i+1:Nat):Int),s0,q++[pl]⟩ x.arg=⟨(j:Int),s0,q++[pl]⟩:=by rw[hi,r];rfl
  rw[B0]at h;have T:∀pl',Yq l.next l pl'->pl'.dH=pl.dH->CX=0->k'=⟨(j:Int),s0,q++[pl']⟩->No G.c P f s ⟨i,s0++[v],q++[pl]⟩ CX k':=λpl' K C0 D0 f0=>by
   subst D0 f0;refine⟨⟨M4 _,⟨I++[l],?_,(J.at b0).OP ⟨K.op,K.b0,K.b1,λ_=>r,K.aq,K.fY,K.sum⟩⟩,iQ hv⟩,?_,M,by show 1<=(j:Int);omega⟩
   .show P[(j:Int).toNat]?=_;rw[dV,S];congr 2;show l.base=(s0.length:Int)
    omega
   .have b:mu G.c f (s+0) ⟨(j:Int),s0,q++[pl']⟩=_:=RX (by show(G.c.getD (j:Int).toNat _).op=39/\_;rw[dV,JF z,p9];exact⟨y0,M⟩);rw[b,GH g M];dsimp only;rw[lP,lP,C0];omega
  have same:Yq l.next l pl:=⟨B.op,B.b0,B.b1,λ_=>rfl,B.aq,B.fY,B.sum⟩
  split at h
  .split at h
   .split at h
    .cases h
    .rename_i E0;rw[mN]at h;simp only[jK.ok.injEq]at h;exact T {pl with sum:=pl.sum+v.int} ⟨same.op,same.b0,same.b1,same.bn,same.aq,same.fY,Ez (kL hv).int same.sum E0⟩ rfl h.1.symm h.2.symm
   .cases h
  .split at h
   .split at h
    .split at h
     .rw[mN]at h;simp only[jK.ok.injEq]at h;exact T {pl with aq:=pl.aq++[pl.fY.getD (pl.dH-1).toNat 0]} ⟨same.op,same.b0,same.b1,λ_=>rfl,by dsimp only;rw[ey,x9];omega,same.fY,same.sum⟩ rfl h.1.symm h.2.symm
     .simp only[jK.ok.injEq]at h;exact T _ same rfl h.1.symm h.2.symm
    .split at h
     .rw[wc]at h;simp only[jK.ok.injEq]at h;obtain⟨rfl,rfl⟩:=h;rw[hi,r,dV,JF z];obtain⟨K,i1,m0,_,G0⟩:=n.pX j y z;rw[S]at m0;obtain⟨_,rfl,rfl⟩:=db.mk.inj (cr m0);cases G0 with
      |next t j1 H0 I0 k1 l1 J0 U m1=>
       obtain⟨rfl,f0⟩:=List.append_inj' I0 rfl;obtain rfl:l=H0:=by simpa using f0
       obtain⟨m,K0⟩:=lG (show 0<=y.arg by omega);have R:=RY n U;rw[K0]at U J0 R⊢;rw[dV]at U R;refine⟨⟨M4 _,⟨I,?_,J.at b0⟩,hv⟩,?_,M,by show 1<=(m:Int);omega⟩
       .show P[(m:Int).toNat]?=_;rw[dV,U];congr 2;show l.base+1=((s0++[v]).length:Int)
        rw[fv];omega
       .have a:=Ew G.c f (s+0) ⟨(m:Int),s0++[v],q⟩ (by show(m:Int)<=_;omega);dsimp only at a;show mu G.c f (s+0) ⟨(m:Int),s0++[v],q⟩<_;rw[GH g M,lP,aj A0];omega
      |same t=>omega|load t=>omega
      |put t=>omega|fO t=>omega
      |sW t=>omega|acq t=>omega
      |Dr t=>omega|loop t=>omega
      |take t=>omega
     .simp only[jK.ok.injEq]at h;exact T _ same rfl h.1.symm h.2.symm
   .cases h
end
instance:DecidableEq bk:=λa b=>decidable_of_iff (a.base=b.base/\a.next=b.next) (by cases a;cases b;simp)
def fB(P:Z db)(to:Nat)(h:Int)(L:Z bk):V (Z db):=match P[to]? with
 |none=>Y|some p=>if p.B9=W then(if p.cJ=h/\p.loops=L then O P else Y)else O (P.set to ⟨W,h,L⟩)
def mg(p:Z bk):Int:=match p.getLast? with
 |none=>0|some l=>l.next
def ud(a:Int):Int:=if a<=9∨a=34∨a=39 then 0 else if 22<=a/\a<=28 then 2 else 1
def kM(op:Int):tl:=op==30||op==31||op==33||op==34||op==39
def gQ(c:Z c8)(P:Z db)(i:Nat)(x:c8)(h:Int)(L:Z bk):V (Z db):=
 if h-dK L<ud x.op then Y
 else if kM x.op=W/\(x.arg<=i∨(c.length:Int)<x.arg)then Y
 else if x.op=1∨x.op=29∨x.op=32 then fB P (i+1) h L
 else if x.op=8 then(if x.arg<L.length then fB P (i+1) (h+1) L else Y)
 else if x.op=2∨x.op=3∨x.op=4∨x.op=5∨x.op=6∨x.op=7∨x.op=9 then fB P (i+1) (h+1) L
 else if 22<=x.op/\x.op<=28 then fB P (i+1) (h-1) L
 else if x.op=30∨x.op=31 then(fB P x.arg.toNat h L).bind λP=>fB P (i+1) (h-1) L
 else if x.op=33 then(fB P x.arg.toNat (h-1) L).bind λP=>fB P (i+1) (h-1) L
 else if x.op=34 then fB P x.arg.toNat h L
 else if 35<=x.op/\x.op<=38 then(c[i+1]?).bind λy=>if y.op=39 then fB P (i+1) (h-1) (L++[⟨h-1,i+1⟩])else Y
 else if x.op=39 then(if L=[]∨mg L≠i∨h≠dK L then Y else(fB P x.arg.toNat (dK L+1) L.dropLast).bind λP=>fB P (i+1) (dK L) L)
 else if x.op=40 then(if 0<L.length/\x.arg=mg L/\h=dK L+1 then O P else Y)
 else fB P (i+1) h L
def Pq(pl:c8->tl)(c:Z c8):Z c8->Nat->Z db->V (Z db)
 |[],i,P=>match P[i]? with
  |some p=>if p.B9=W/\p.cJ=1/\p.loops=[]then O P else Y|none=>Y
 |x::l,i,P=>match P[i]? with
  |some p=>if p.B9=W/\pl x=W then(gQ c P i x p.cJ p.loops).bind (Pq pl c l (i+1))else Y|none=>Y
def LA(pl:c8->tl)(c:Z c8):V (Z db):=
 if 1024<c.length then Y else Pq pl c c 0 (⟨W,0,[]⟩::List.replicate c.length ⟨F,0,[]⟩)
structure Ext(P P':List db):Prop where
 len:P'.length=P.length
 cK:∀(j:Nat)(h:Int)(L:List bk),P[j]?=O ⟨W,h,L⟩->P'[j]?=O ⟨W,h,L⟩
def Ext.refl (P:Z db):Ext P P:=⟨rfl,λ_ _ _ h=>h⟩
def Ext.trans {c:Z db} (a:Ext P P') (b:Ext P' c):Ext P c:=⟨b.len.trans a.len,λj h L e=>b.cK j h L (a.cK j h L e)⟩
structure afo(P:List db)(to:Nat)(h:Int)(L:List bk)(P':List db):Prop where
 ext:Ext P P'
 Yv:P'[to]?=O ⟨W,h,L⟩
 new:∀(j:Nat)(h':Int)(L':List bk),P'[j]?=O ⟨W,h',L'⟩->P[j]?=O ⟨W,h',L'⟩∨(j=to/\h'=h/\L'=L)
def oq{h:Int}(e:fB P to h L=O P'):afo P to h L P':=by
 unfold fB at e;split at e
 .cases e
 .rename_i p f;split at e
  .rename_i d;split at e
   .rename_i g;cases e;obtain⟨k,a,b⟩:=p;dsimp only at d g;obtain⟨rfl,rfl⟩:=g;subst d;exact⟨Ext.refl _,f,λj h' i c=>.inl c⟩
   .cases e
  .rename_i d;cases e;have l:=(aY.1 f).1;refine⟨⟨aE,λj h' i c=>?_⟩,by simp[l],λj h' i c=>?_⟩
   .rw[qp];by_cases e:to=j
    .subst e;rw[f]at c;cases c;exact(d rfl).elim
    .rw[ai e];exact c
   .rw[qp]at c;by_cases e:to=j
    .subst e;rw[aj rfl,aj l]at c;cases c;exact .inr ⟨rfl,rfl,rfl⟩
    .rw[ai e]at c;exact .inl c
section
variable{c:Z c8}{P P':Z db}{i:Nat}{h:Int}{L:Z bk}{x:c8}
def GG.mono (b:Ext P P') {l:bk} (a:GG c P i L j l):GG c P' i L j l:=⟨a.base,a.next,a.upto,b.cK _ _ _ a.jw,a.pX⟩
def kK.mono (b:Ext P P') (a:kK c P i h L):kK c P' i h L:=⟨a.h0,a.h1,a.len,λj l d=>(a.loops j l d).mono b⟩
def yM.mono (e:Ext P P') (a:yM c P i h L x):yM c P' i h L x:=by
 cases a with
 |same b f d=>exact .same b f (e.cK _ _ _ d)|load b g d=>exact .load b g (e.cK _ _ _ d)
 |put b d=>exact .put b (e.cK _ _ _ d)|fO b f d=>exact .fO b f (e.cK _ _ _ d)
 |sW b f g d j=>exact .sW b f g (e.cK _ _ _ d) (e.cK _ _ _ j)|acq b f g d j=>exact .acq b f g (e.cK _ _ _ d) (e.cK _ _ _ j)
 |Dr b g d=>exact .Dr b g (e.cK _ _ _ d)|loop b f o d=>exact .loop b f o (e.cK _ _ _ d)
 |next b k l m hi n g d j=>exact .next b k l m hi n g (e.cK _ _ _ d) (e.cK _ _ _ j)|take b k l m hi n=>exact .take b k l m hi n
structure ue(c:List c8)(P:List db)(i:Nat):Prop where
 len:P.length=c.length+1
 oo:c.length<=1024
 first:P[0]?=O ⟨W,0,[]⟩
 jw:∀(i:Nat)(h:Int)(L:List bk),P[i]?=O ⟨W,h,L⟩->kK c P i h L
 pX:∀(j:Nat)(x:c8),j<i->c[j]?=O x->∃h L,P[j]?=O ⟨W,h,L⟩/\hZ x/\yM c P j h L x
def ue.lead {k:Nat} (f:ue c P k) {h:Int} {L:Z bk} (l:fB P to h L=O P') (m:kK c P' to h L):ue c P' k:=by
 obtain⟨a,b,d⟩:=oq l;refine⟨a.len.trans f.len,f.oo,a.cK _ _ _ f.first,λj h' g i=>?_,λj y i n=>?_⟩
 .rcases d j h' g i with e|⟨rfl,rfl,rfl⟩
  .exact (f.jw j h' g e).mono a
  .exact m
 .obtain ⟨h',g,e1,e2,o⟩:=f.pX j y i n;exact⟨h',g,a.cK _ _ _ e1,e2,o.mono a⟩
def kK.on {h':Int} (a:kK c P i h L) (k:i<j) (h0:0<=h') (h1:h'<=h+1):kK c P j h' L:=by have:=a.h1;have:=a.len;exact⟨h0,M,M,λq l b=>by obtain⟨d,e,m,f,g⟩:=a.loops q l b;exact⟨d,e,M,f,g⟩⟩
def Nq(a:L≠[]):∃b l,L=b++[l]/\dK L=l.base/\mg L=l.next/\L.dropLast=b:=by
 refine⟨L.dropLast,L.getLast a,(V3 a).symm,?_,?_,rfl⟩
 .unfold dK;rw[List.getLast?_eq_some_getLast a]
 .unfold mg;rw[List.getLast?_eq_some_getLast a]
def Nr(s:ue c P i)(f0:c[i]?=O x)(Yu:hZ x)(X:P[i]?=O ⟨W,h,L⟩)(e:gQ c P i x h L=O P'):ue c P' (i+1):=by
 have g:=s.jw i h L X;have m0:=Np g;have n0:=g.h0;have u:∀{P'},ue c P' i->Ext P P'->yM c P' i h L x->ue c P' (i+1):=λ{P'} a b d=>
  ⟨a.len,a.oo,a.first,a.jw,λj y k t=>by
   by_cases q:j<i
   .exact a.pX j y q t
   .have:j=i:=M;subst this;rw[f0]at t;cases t;exact⟨h,L,b.cK _ _ _ X,Yu,d⟩⟩
 have one:∀{to:Nat}{h':Int},fB P to h' L=O P'->i<to->0<=h'->h'<=h+1->(P'[to]?=O ⟨W,h',L⟩->yM c P' i h L x)->ue c P' (i+1):=λ{to h'} q q1 D E G=>by have l:=oq q;exact u (s.lead q ((g.on q1 D E).mono l.ext)) l.ext (G l.Yv)
 have fO:∀{to:Nat}{h1 v:Int},((fB P to h1 L).bind λP=>fB P (i+1) v L)=O P'->i<to->0<=h1->h1<=h+1->0<=v->v<=h+1->(P'[to]?=O ⟨W,h1,L⟩->P'[i+1]?=O ⟨W,v,L⟩->yM c P' i h L x)->ue c P' (i+1):=λ{to h1 v} q q1 D E G g0 h0=>by obtain⟨a0,z,A⟩:=hG.1 q;have n:=oq z;have o:=oq A;have H:=s.lead z ((g.on q1 D E).mono n.ext);have I:=H.lead A (((g.on (gl i) G g0).mono n.ext).mono o.ext);exact u I (n.ext.trans o.ext) (h0 (o.ext.cK _ _ _ n.Yv) o.Yv)
 unfold gQ at e;by_cases m:h-dK L<ud x.op
 .rw[aj m]at e;cases e
 rw[ai m]at e;have m:ud x.op<=h-dK L:=M;unfold ud at m;by_cases k:kM x.op=W/\(x.arg<=i∨(c.length:Int)<x.arg)
 .rw[aj k]at e;cases e
 rw[ai k]at e;have k:kM x.op=W->(i:Int)<x.arg/\x.arg<=c.length:=λa=>by
  constructor
  .refine x6.1 λb=>k ⟨a,.inl b⟩
  .refine iB.1 λb=>k ⟨a,.inr b⟩
 by_cases f:x.op=1∨x.op=29∨x.op=32
 .rw[aj f]at e;refine one e (gl i) M M (.same M λh1=>?_);rw[ai M,ai M]at m;omega
 rw[ai f]at e;replace o0:=f;clear f;by_cases f:x.op=8
 .rw[aj f]at e;split at e
  .rename_i i0;exact one e (gl i) M M (.load f i0)
  .cases e
 rw[ai f]at e;replace p0:=f;clear f;by_cases f:x.op=2∨x.op=3∨x.op=4∨x.op=5∨x.op=6∨x.op=7∨x.op=9
 .rw[aj f]at e;exact one e (gl i) M M (.put M)
 rw[ai f]at e;replace q0:=f;clear f;by_cases f:22<=x.op/\x.op<=28
 .rw[aj f]at e;rw[ai M,aj f]at m;exact one e (gl i) M M (.fO f M)
 rw[ai f]at e;replace r0:=f;clear f;by_cases f:x.op=30∨x.op=31
 .rw[aj f]at e;obtain⟨r,J⟩:=k (by unfold kM;rcases f with f|f<;>rw[f]<;>rfl);rw[ai M,ai M]at m;exact fO e M M M M M (.sW f M r)
 rw[ai f]at e;replace s0:=f;clear f;by_cases f:x.op=33
 .rw[aj f]at e;obtain⟨r,J⟩:=k (by unfold kM;rw[f];rfl);rw[ai M,ai M]at m;exact fO e M M M M M (.acq f M r)
 rw[ai f]at e;replace t0:=f;clear f;by_cases f:x.op=34
 .rw[aj f]at e;obtain⟨r,J⟩:=k (by unfold kM;rw[f];rfl);exact one e M M M (.Dr f r)
 rw[ai f]at e;replace u0:=f;clear f;by_cases f:35<=x.op/\x.op<=38
 .rw[aj f]at e;rw[ai M,ai M]at m;obtain⟨y,t,e⟩:=hG.1 e;split at e
  .rename_i b0;have l:=oq e;have K:=(g.on (j:=i+1) (h':=h-1) (gl i) M M).mono l.ext;have c0:=g.len;refine u (s.lead e ⟨K.h0,K.h1,cM,λq w p=>?_⟩) l.ext (.loop f M ⟨y,t,b0⟩ l.Yv);by_cases N:q<L.length
   .rw[fx N]at p;obtain⟨Q,R,d0,S,T⟩:=K.loops q w p;refine⟨Q,R,d0,?_,T⟩;rw[S,JQ M]
   .have j0:=(aY.1 p).1;simp only[ey,ec,kU]at j0;obtain rfl:q=L.length:=M;rw[im (a6 _)]at p;simp at p;subst p;refine⟨dY,dY,dY,?_,⟨y,?_,b0⟩⟩
    .show P'[((i:Int)+1).toNat]?=_;rw[(M:((i:Int)+1).toNat=i+1),l.Yv,dh aE]
    .show c[((i:Int)+1).toNat]?=_;rw[(M:((i:Int)+1).toNat=i+1),t]
  .cases e
 rw[ai f]at e;replace v0:=f;clear f;by_cases f:x.op=39
 .rw[aj f]at e;obtain⟨r,J⟩:=k (by unfold kM;rw[f];rfl);split at e
  .cases e
  rename_i B;have U:L≠[]:=λa=>B (.inl a);have w0:mg L=i:=Classical.not_not.1 λa=>B (.inr (.inl a));have x0:h=dK L:=Classical.not_not.1 λa=>B (.inr (.inr a));obtain⟨C,l,rfl,g1,g2,e0⟩:=Nq U;rw[e0,g1]at e;obtain⟨a0,z,A⟩:=hG.1 e;have n:=oq z;have o:=oq A;have c0:=g.len;have y0:=g.h1;simp only[ey,ec,kU]at c0;have l0:kK c a0 x.arg.toNat (l.base+1) C:=⟨M,M,M,λq w p=>by have N:=(aY.1 p).1;obtain⟨Q,R,d0,S,T⟩:=(g.mono n.ext).loops q w (by rw[fx N];exact p);exact⟨Q,R,M,by rw[S,JQ M],T⟩⟩
  have H:=s.lead z l0;have I:=H.lead A (((g.on (gl i) M M).mono n.ext).mono o.ext);exact u I (n.ext.trans o.ext) (.next f C l rfl M M r (o.ext.cK _ _ _ n.Yv) o.Yv)
 rw[ai f]at e;replace A0:=f;clear f;by_cases f:x.op=40
 .rw[aj f]at e;split at e
  .rename_i B;cases e;have U:L≠[]:=by rintro rfl;simp at B
   obtain⟨C,l,rfl,g1,g2,e0⟩:=Nq U;exact u s (Ext.refl _) (.take f C l rfl M M)
  .cases e
 rw[ai f]at e;have B0:=Yu.op;rw[ai M,ai M]at m;exact one e (gl i) M M (.same M λ_=>M)
end
section
variable{pl:c8->tl}{c:Z c8}(Yu:∀x,pl x=W->hZ x)
include Yu
theorem RZ{P':Z db}:∀(l:Z c8)(i:Nat)(P:Z db),c.drop i=l->ue c P i->Pq pl c l i P=O P'->pq c P'
 |[],i,P,g,d,e=>by
  have s:c.length<=i:=by simpa using g
  unfold Pq at e;split at e
  .rename_i p h;split at e
   .rename_i f;cases e;obtain⟨k,a,b⟩:=p;dsimp only at f;obtain⟨rfl,rfl,rfl⟩:=f;have t:=(aY.1 h).1;have:=d.len;obtain rfl:i=c.length:=M;exact⟨d.len,d.oo,d.first,h,d.jw,λj x m=>d.pX j x (aY.1 m).1 m⟩
   .cases e
  .cases e
 |x::l,i,P,g,d,e=>by
  have m:c[i]?=O x:=by have:=bH List.head? g;simpa[List.head?_drop]using this
  have n:c.drop (i+1)=l:=by have:=bH List.tail g;simpa[List.tail_drop]using this
  unfold Pq at e;split at e
  .rename_i p h;split at e
   .rename_i f;obtain⟨k,a,b⟩:=p;dsimp only at f e;obtain⟨rfl,o⟩:=f;obtain⟨q,e1,r⟩:=hG.1 e;exact RZ l (i+1) q n (Nr d m (Yu x o) h e1) r
   .cases e
  .cases e
end
def fc{σ:Type}{h:σ}{k:σ->V α}{P:α->Prop}(a:∀h',h'=h->T (k h') P):T (bw h k) P:=a h rfl
section
variable{β:Type}
def xI{l:Z (V (Z β))}{q:Nat}{xs ys:Z β}(h:bz l q=O xs):bz (l.set q (O ys)) q=O ys:=by unfold bz at h⊢;obtain⟨o,h1,a⟩:=hG.1 h;have:=(aY.1 h1).1;simp[this]
def GJ{l:Z (V (Z β))}{q a:Nat}{o:V (Z β)}(h:q≠a):bz (l.set q o) a=bz l a:=by unfold bz;rw[zO h]
def OS{l:Z (V (Z β))}{o:V (Z β)}{q:Nat}{xs:Z β}(h:bz l q=O xs):bz (l++[o]) q=O xs:=by unfold bz at h⊢;obtain⟨o,h1,a⟩:=hG.1 h;rw[fx (aY.1 h1).1];exact h
def EB{l:Z (V (Z β))}{xs:Z β}:bz (l++[O xs]) l.length=O xs:=by simp[bz]
def W2{l:Z (V (Z β))}{q:Nat}{xs:Z β}(h:bz l q=O xs):q<l.length:=by unfold bz at h;obtain⟨o,h1,a⟩:=hG.1 h;exact(aY.1 h1).1
def R6(l:Z (V (Z β)))(p:V (Nat×Nat)):(ek l p).length=l.length:=by
 cases p with
 |none=>rfl|some p=>obtain ⟨i,n⟩:=p;simp[ek]
def si{l:Z (V (Z β))}{q n:Nat}{zs:Z β}(h:bz l q=O zs)(a:n<=zs.length):ad l (O (q,n))=O (zs.take n):=by simp only[ad,h,aM,td a,bf]
def R7{l:Z (V (Z β))}{xs:Z β}(h:ad l p=O xs):p=Y/\xs=[]∨∃q zs,p=O (q,xs.length)/\bz l q=O zs/\xs.length<=zs.length/\zs.take xs.length=xs:=by
 cases p with
 |none=>left;exact⟨rfl,(cr h).symm⟩|some p=>
  right;obtain⟨q,n⟩:=p;obtain⟨zs,h1,a⟩:=hG.1 h;cases b:Nat.ble n zs.length with
  |false=>rw[b]at a;cases a
  |true=>rw[b]at a;have d:=Nat.le_of_ble_eq_true b;obtain rfl:=cr a;have c:(zs.take n).length=n:=cM;exact⟨q,zs,by rw[c],h1,by rw[c];exact d,by rw[c]⟩
def Ns{l:Z (V (Z β))}{xs:Z β}{x:β}(h:ad l p=O (xs++[x])):
  ∃q zs,p=O (q,xs.length+1)/\bz l q=O zs/\zs[xs.length]?=O x/\xs.length+1<=zs.length/\zs.take xs.length=xs:=by
 rcases R7 h with⟨_,a⟩|⟨q,zs,h1,a,c,b⟩
 .simp at a
 .simp only[ey,ec,kU]at h1 c b;refine⟨q,zs,h1,a,?_,c,?_⟩
  .have:=bH (λl=>l[xs.length]?) b;simpa[gf]using this
  .have:=bH (List.take xs.length) b;rw[List.take_take,zX M]at this;simpa using this
def GK(l:Z (V (Z β)))(p:V (Nat×Nat))(xs:Z β):ad (ek l p++[O xs]) (O ((ek l p).length,xs.length))=O xs:=by rw[si EB (a6 _),lW]
end
structure Dt(gls:List (Option (List Int)))(a:bJ)(b:PL):Prop where
 aq:ad gls a.cx.aq=O b.aq
 sum:a.cx.sum=b.sum
 op:a.op=b.op
 fY:a.fY=b.fY
 dH:a.dH=b.dH
def rN(a:bJ):V Nat:=a.cx.aq.map Prod.fst
structure Ng(gls:List (Option (List Int)))(ls:List bJ)(Tn:List PL):Prop where
 len:ls.length=Tn.length
 one:∀(j:Nat)(a:bJ)(b:PL),ls[j]?=O a->Tn[j]?=O b->Dt gls a b
 apart:∀(j j':Nat)(a a':bJ)(q:Nat),ls[j]?=O a->ls[j']?=O a'->rN a=O q->rN a'=O q->j=j'
def Ng.nil (gls:Z (V (Z Int))):Ng gls [] []:=⟨rfl,λj a b h=>by simp at h,λj c a a' q h=>by simp at h⟩
def Ng.h5 {ls:Z bJ} {p:PL} (h:Ng gls ls (Tn++[p])):∃c l,ls=c++[l]/\Ng gls c Tn/\Dt gls l p/\∀a∈c,∀q,rN a=O q->rN l≠O q:=by
 obtain⟨g,i,k⟩:=h;have m:ls≠[]:=by rintro rfl;simp at g
 obtain⟨c,l,rfl⟩:∃c l,ls=c++[l]:=⟨ls.dropLast,ls.getLast m,(V3 m).symm⟩
 simp only[ey,ec,kU]at g;have e:c.length=Tn.length:=M;have f:∀{j:Nat}{a:bJ},c[j]?=O a->(c++[l])[j]?=O a:=λ{j a} h=>by rw[fx (aY.1 h).1];exact h
 have n:(c++[l])[c.length]?=O l:=aE;refine⟨c,l,rfl,⟨e,λj a b d o=>i j a b (f d) (by rw[fx (aY.1 o).1];exact o),λj r a a' q d s=>k j r a a' q (f d) (f s)⟩,i c.length l p n (by rw[e];simp),λa d q t u=>?_⟩;obtain⟨j,v,rfl⟩:=gX d;have:=k j c.length _ l q (f (bS v)) n t u;omega
def Ng.OP {c:Z bJ} {l:bJ} {p:PL} (h:Ng gls c Tn) (s:Dt gls l p) (m:∀a∈c,∀q,rN a=O q->rN l≠O q):Ng gls (c++[l]) (Tn++[p]):=by
 obtain⟨n,g2,t⟩:=h;have g:∀{j:Nat}{a:bJ},(c++[l])[j]?=O a->j<c.length/\c[j]?=O a∨j=c.length/\a=l:=λ{j a} h=>by
  by_cases f:j<c.length
  .rw[fx f]at h;exact .inl ⟨f,h⟩
  .have u:=(aY.1 h).1;simp only[ey,ec,kU]at u;obtain rfl:j=c.length:=M;rw[im (a6 _)]at h;simp at h;exact .inr ⟨rfl,h.symm⟩
 refine⟨by simp[n],λj a b d e=>?_,λj v a a' q d w i k=>?_⟩
 .rcases g d with⟨f,d⟩|⟨rfl,rfl⟩
  .rw[fx M]at e;exact g2 j a b d e
  .rw[n,im (a6 _)]at e;simp at e;subst e;exact s
 .rcases g d with⟨f,o⟩|⟨x,y⟩<;>rcases g w with⟨B,r⟩|⟨z,A⟩
  .exact t j v a a' q o r i k
  .subst A;exact(m a (bF o) q i k).elim
  .subst y;exact(m a' (bF r) q k i).elim
  .rw[x,z]
def Dt.cK {a:bJ} {b:PL} (h:Dt gls a b) (e:∀q,rN a=O q->bz gls' q=bz gls q):Dt gls' a b:=by
 refine⟨?_,h.sum,h.op,h.fY,h.dH⟩;have c:=h.aq;cases d:a.cx.aq with
 |none=>rw[d]at c;exact c|some p=>obtain⟨q,n⟩:=p;rw[d]at c;have:=e q (by simp[rN,d]);simp only[ad,this]at c⊢;exact c
def Ng.cK {ls:Z bJ} (h:Ng gls ls Tn) (d:∀a∈ls,∀q,rN a=O q->bz gls' q=bz gls q):Ng gls' ls Tn:=⟨h.len,λj a b c e=>(h.one j a b c e).cK (d a (bF c)),h.apart⟩
structure oI where
 ok:Hp->Prop
 cK:∀{h h':Hp},ok h->h'.dU=h.dU->h'.hQ=h.hQ->h'.jk=h.jk->h'.et=h.et->h'.uC=h.uC->h'.uB=h.uB->h'.Cb=h.Cb->h'.CV=h.CV->h'.all=h.all->ok h'
structure ER(B:oI)(t:Option Nat)(G:Gm)(h:Hp)(e:bO)(f s:Int)(k:KS)(ts:List Int):Prop where
 t:e.t=t
 m:e.m=G.m
 c:e.c=G.c
 jt:dX h.jt e.lh=O G.jt
 self:e.self=G.self
 bT:e.bT=f
 eC:e.eC=s
 eB:e.eB=k.eB
 stack:ad h.IT e.stack=O k.stack
 loops:∃ls,ad h.jC e.loops=O ls/\Ng h.gls ls k.loops
 fA:∃q,e.fA=O (q,ts.length)/\bz h.sg q=O ts
 dU:B.ok h
def ER.sg {B:oI} {t:V Nat} {h:Hp} {e:bO} {ts:Z Int} (a:ER B t G h e f s k ts):∃xs,ad h.sg e.fA=O xs:=by obtain⟨q,h1,b⟩:=a.fA;exact⟨_,by rw[h1];exact si b (a6 _)⟩
def xZ(B:oI)(t:V Nat)(G:Gm)(i:Nat)(h:Hp)(f s:Int)(k:KS)(ts:Z Int):Prop:=∃e,h.fj[i]?=O e/\ER B t G h e f s k ts
section
variable{N:Nat}{B:oI}{t:V Nat}{G:Gm}{h:Hp}{i:Nat}{e:bO}{f s:Int}{k:KS}{ts:Z Int}
def Hp.run (h:Hp) (i:Nat) (e:bO):Hp:={h with fj:=h.fj.set i e}
def hx(a:h.fj[i]?=O e)(e':bO):(h.run i e').fj[i]?=O e':=by have:=(aY.1 a).1;simp[Hp.run,this]
def Nt(e e':bO):(h.run i e).run i e'=h.run i e':=by simp[Hp.run]
def Yw(he:h.fj[i]?=O e){q n:Nat}{zs:Z eT}(hs:e.stack=O (q,n+1))(a:bz h.IT q=O zs)(hv:zs[n]?=O v)(b:n<1099511627776):
  Lo N (O i) h=O (v,h.run i {e with stack:=O (q,n)}):=by
 unfold Lo;have hw:IntKind.i64.wrap (((n+1:Nat):Int)-1)=(n:Int):=by rw[fG M M];omega
 simp only[aM,he,hs,cU,hw,a,dV,hv,bw];rw[fX cM,fX aE];rfl
def Vm(b:h.fj[i]?=O e)(c:ad h.IT e.stack=O (s0++[v]))(d:s0.length<1099511627776):
  ∃p,Lo N (O i) h=O (v,h.run i {e with stack:=p})/\ad h.IT p=O s0:=by
 obtain⟨q,zs,h1,a,f,j,g⟩:=Ns c;refine⟨O (q,s0.length),Yw b h1 a f d,?_⟩;rw[si a M,g]
def Hp.aaD (h:Hp) (p:V (Nat×Nat)) (xs:Z eT):Hp:={h with IT:=ek h.IT p++[O xs]}
def Vn(he:h.fj[i]?=O e)(hs:ad h.IT e.stack=O st)(c:st.length<=1048576)(v:eT):
  gE N (O i,v) h=O (0,(h.aaD e.stack (st++[v])).run i {e with stack:=O ((ek h.IT e.stack).length,(st++[v]).length)}):=by
 unfold gE;have a:cR (cE 72 (st.length+[v].length) 140737488355328)=O ():=fX (dG cM cM);have b:cR (!(st++[v]).isEmpty)=O ():=fX aE;simp only[aM,he,hs,a,b,bw];rfl
end
abbrev Wl:Z (V Nat):=[Y,O 118,O 120,O 123,O 125,O 127,O 128,O 130,O 131,O 132,O 133,O 133,O 133,O 133,O 133,O 133,O 134,O 134,O 134,O 134,O 134,O 134,O 135,O 135,O 135,O 135,O 135,O 135,O 135,O 137,O 137,O 137,O 137,O 137,O 137,O 138,O 138,O 138,O 138,O 139,O 140]
def Vo:Z (Nat×(Nat×Z (V Nat))):=[(48,(Rs,Wl))]
def Vp:∀E,B8 E->∀f n fs,lk Vo f=O (n,fs)->nm PP E f [] (.ret [.v (.agg (fs.map pb))]):=λE b f n fs h=>by
 unfold Vo at h;simp only[lk]at h;cases a:Nat.beq 48 f with
 |false=>rw[a]at h;cases h
 |true=>rw[a]at h;obtain rfl:=bV a;obtain⟨rfl,rfl⟩:=th (cr h);exact ZT SS b.ro IV f48 [] (.seq Y .aC (.seq Y .aC (.seq Y .aC (.seq Y .aC (.seq Y .aC (.seq Y .aC (.seq Y .aC (.seq Y .aC (.seq Y .aC (.seq Y .aC (.seq Y .aC (.seq Y (.seq Y .aC (.block (.rv .aC))) (.seq Y (.seq Y .aC (.block (.rv .aC))) (.seq Y (.seq Y .aC (.block (.rv .aC))) (.seq Y (.seq Y .aC (.block (.rv .aC))) (.seq Y (.seq Y .aC (.block (.rv .aC))) .aC)))))))))))))))) 0 138 Wl au au au au au cd au
end Go.Proofs.Mo
namespace Go.Proofs.Mo
open Go Go.Ev Go.X
open Go.IntKind renaming i64->Wk
section
variable(N:Nat)
def LB:(V Nat)×c8->Hp->V (Int×Hp):=λ(b,c) h=>(Lm N (b,c.arg) h).bind λa=>O (a.1,a.2)
abbrev afp:b7 U:=⟨[ahx,ahu],[.v .I],Y,.st (LB N)⟩
def afq:Holds 118 (afp N):=gS N f118 .aC (cn (Ym N) nl)
def OT:(V Nat)×c8->Hp->V (Int×Hp):=λ(b,c) h=>(p7 N c.int).bind λd=>(gE N (b,d) h).bind λa=>O (a.1,a.2)
abbrev afr:b7 U:=⟨[ahx,ahu],[.v .I],Y,.st (OT N)⟩
def afs:Holds 120 (afr N):=gS N f120 .aC (cn (zh N) (cn (Vh N) nl))
def OU:(V Nat)×c8->Hp->V (Int×Hp):=λ(b,c) h=>(Dp N c.text).bind λd=>(gE N (b,d) h).bind λa=>O (a.1,a.2)
abbrev aft:b7 U:=⟨[ahx,ahu],[.v .I],Y,.st (OU N)⟩
def afu:Holds 123 (aft N):=gS N f123 .aC (cn (zh N) (cn (Vf N) nl))
def OV:(V Nat)×c8->Hp->V (Int×Hp):=λ(b,d) h=>(jv N W).bind λc=>(gE N (b,c) h).bind λa=>O (a.1,a.2)
abbrev afv:b7 U:=⟨[ahx,ahu],[.v .I],Y,.st (OV N)⟩
def afw:Holds 125 (afv N):=gS N f125 .aC (cn (zh N) (cn (Ln N) nl))
def OW:(V Nat)×c8->Hp->V (Int×Hp):=λ(b,d) h=>(jv N F).bind λc=>(gE N (b,c) h).bind λa=>O (a.1,a.2)
abbrev afx:b7 U:=⟨[ahx,ahu],[.v .I],Y,.st (OW N)⟩
def afy:Holds 127 (afx N):=gS N f127 .aC (cn (zh N) (cn (Ln N) nl))
def LC:(V Nat)×c8->Hp->V (Int×Hp):=λ(a,e) h=>a.bind λi1=>(h.fj[i1]?).bind λc=>(I6 N c.self).bind λd=>(gE N (a,d) h).bind λb=>O (b.1,b.2)
abbrev afz:b7 U:=⟨[ahx,ahu],[.v .I],Y,.st (LC N)⟩
def afA:Holds 128 (afz N):=gS N f128 .aC (cn (zh N) (cn (RT N) nl))
def OX:(V Nat)×c8->Hp->V (Int×Hp):=λ(b,d) h=>(I6 N 0).bind λc=>(gE N (b,c) h).bind λa=>O (a.1,a.2)
abbrev afB:b7 U:=⟨[ahx,ahu],[.v .I],Y,.st (OX N)⟩
def afC:Holds 130 (afB N):=gS N f130 .aC (cn (zh N) (cn (RT N) nl))
def LD:(V Nat)×c8->Hp->V (Int×Hp):=λ(a,b) h=>a.bind λi1=>(h.fj[i1]?).bind λg=>a.bind λi=>(h.fj[i]?).bind λc=>g.loops.bind λd=>(cR (decide (0<=Wk.wrap ((Wk.wrap ((cU c.loops:Int)-1))-b.arg))&&decide (Wk.wrap ((Wk.wrap ((cU c.loops:Int)-1))-b.arg)<(d.2:Int)))).bind λ_=>(bz h.jC d.1).bind λj=>(j[(Wk.wrap ((Wk.wrap ((cU c.loops:Int)-1))-b.arg)).toNat]?).bind λe=>(aR e.fY (Wk.wrap (e.dH-1))).bind λz8=>(I6 N z8).bind λk=>(gE N (a,k) h).bind λf=>O (f.1,f.2)
abbrev afD:b7 U:=⟨[ahx,ahu],[.v .I],Y,.st (LD N)⟩
def afE:Holds 131 (afD N):=gS N f131 .aC (cn (zh N) (cn (RT N) nl))
def R8(N:Nat):(V Nat)×c8->V Int:=λ(a,b)=>O 91
abbrev afF:b7 U:=⟨[ahx,ahu],[.v .I],Y,.pure (R8 N)⟩
def afG:Holds 132 (afF N):=gP N f132 .aC nl
def aaE(N:Nat)(s0 t0 u0 v0 w0 x0 y0 A0 j k g l m B0 C0:(V Nat)×c8->Hp->V (Int×Hp))(D0:(V Nat)×c8->V Int):V Nat->Hp->V (Int×Hp):=λb h=>
 aS (λ((_,E0):xW×Hp)=>O (0,E0)) λG0=>
 aZ (λH0((_,e):xW×Hp)=>
  b.bind λI0=>
  (e.fj[I0]?).bind λJ0=>
  b.bind λK0=>
  (e.fj[K0]?).bind λL0=>
  bif J0.eB<(L0.c.length:Int)then
   b.bind λN0=>
   (e.fj[N0]?).bind λP0=>
   b.bind λQ0=>
   (e.fj[Q0]?).bind λR0=>
   (aR P0.c R0.eB).bind λa=>
   b.bind λS0=>
   (e.fj[S0]?).bind λp=>
   b.bind λT0=>
   (e.fj[T0]?).bind λi=>
   p.fA.bind λq=>
   (cR (decide (0<=i.eB)&&decide (i.eB<(q.2:Int)))).bind λ_=>
   (bz e.sg q.1).bind λU0=>
   (U0[i.eB.toNat]?).bind λX0=>
   p.fA.bind λo=>
   (cR (decide (0<=i.eB)&&decide (i.eB<(o.2:Int)))).bind λ_=>
   (bz e.sg o.1).bind λr=>
   (r[i.eB.toNat]?).bind λd1=>
   bw {e with sg:=e.sg.set o.1 (O (r.set i.eB.toNat (Wk.wrap (X0+1))))} λn=>
   b.bind λa1=>
   (n.fj[a1]?).bind λb1=>
   b.bind λs=>
   (n.fj[s]?).bind λf=>
   bw {n with fj:=n.fj.set s (bO.mk f.t f.m f.c f.lh f.self f.bT f.eC (Wk.wrap (b1.eB+1)) f.stack f.loops f.fA)} λc=>
   aS (λ((t,u):Int×Hp)=>
    bif !(t==0)then O (t,u)
    else H0 ((),u)) λd=>
   bif bp a.op 0 then Y
   else
   bif bp a.op 1 then
    (s0 (b,a) c).bind λv=>
    d (v.1,v.2)
   else
   bif bp a.op 2 then
    (t0 (b,a) c).bind λw=>
    d (w.1,w.2)
   else
   bif bp a.op 3 then
    (u0 (b,a) c).bind λx=>
    d (x.1,x.2)
   else
   bif bp a.op 4 then
    (v0 (b,a) c).bind λy=>
    d (y.1,y.2)
   else
   bif bp a.op 5 then
    (w0 (b,a) c).bind λz=>
    d (z.1,z.2)
   else
   bif bp a.op 6 then
    (x0 (b,a) c).bind λA=>
    d (A.1,A.2)
   else
   bif bp a.op 7 then
    (y0 (b,a) c).bind λB=>
    d (B.1,B.2)
   else
   bif bp a.op 8 then
    (A0 (b,a) c).bind λC=>
    d (C.1,C.2)
   else
   bif bp a.op 9 then
    (D0 (b,a)).bind λc1=>
    d (c1,c)
   else
   bif bp a.op 10 then
    (j (b,a) c).bind λD=>
    d (D.1,D.2)
   else
   bif bp a.op 11 then
    (j (b,a) c).bind λE=>
    d (E.1,E.2)
   else
   bif bp a.op 12 then
    (j (b,a) c).bind λG=>
    d (G.1,G.2)
   else
   bif bp a.op 13 then
    (j (b,a) c).bind λH=>
    d (H.1,H.2)
   else
   bif bp a.op 14 then
    (j (b,a) c).bind λI=>
    d (I.1,I.2)
   else
   bif bp a.op 15 then
    (j (b,a) c).bind λJ=>
    d (J.1,J.2)
   else
   bif bp a.op 16 then
    (k (b,a) c).bind λK=>
    d (K.1,K.2)
   else
   bif bp a.op 17 then
    (k (b,a) c).bind λL=>
    d (L.1,L.2)
   else
   bif bp a.op 18 then
    (k (b,a) c).bind λP=>
    d (P.1,P.2)
   else
   bif bp a.op 19 then
    (k (b,a) c).bind λQ=>
    d (Q.1,Q.2)
   else
   bif bp a.op 20 then
    (k (b,a) c).bind λR=>
    d (R.1,R.2)
   else
   bif bp a.op 21 then
    (k (b,a) c).bind λS=>
    d (S.1,S.2)
   else
   bif bp a.op 22 then
    (g (b,a) c).bind λT=>
    d (T.1,T.2)
   else
   bif bp a.op 23 then
    (g (b,a) c).bind λU=>
    d (U.1,U.2)
   else
   bif bp a.op 24 then
    (g (b,a) c).bind λX=>
    d (X.1,X.2)
   else
   bif bp a.op 25 then
    (g (b,a) c).bind λb0=>
    d (b0.1,b0.2)
   else
   bif bp a.op 26 then
    (g (b,a) c).bind λc0=>
    d (c0.1,c0.2)
   else
   bif bp a.op 27 then
    (g (b,a) c).bind λd0=>
    d (d0.1,d0.2)
   else
   bif bp a.op 28 then
    (g (b,a) c).bind λe0=>
    d (e0.1,e0.2)
   else
   bif bp a.op 29 then
    (l (b,a) c).bind λf0=>
    d (f0.1,f0.2)
   else
   bif bp a.op 30 then
    (l (b,a) c).bind λg0=>
    d (g0.1,g0.2)
   else
   bif bp a.op 31 then
    (l (b,a) c).bind λh0=>
    d (h0.1,h0.2)
   else
   bif bp a.op 32 then
    (l (b,a) c).bind λi0=>
    d (i0.1,i0.2)
   else
   bif bp a.op 33 then
    (l (b,a) c).bind λj0=>
    d (j0.1,j0.2)
   else
   bif bp a.op 34 then
    (l (b,a) c).bind λl0=>
    d (l0.1,l0.2)
   else
   bif bp a.op 35 then
    (m (b,a) c).bind λm0=>
    d (m0.1,m0.2)
   else
   bif bp a.op 36 then
    (m (b,a) c).bind λn0=>
    d (n0.1,n0.2)
   else
   bif bp a.op 37 then
    (m (b,a) c).bind λo0=>
    d (o0.1,o0.2)
   else
   bif bp a.op 38 then
    (m (b,a) c).bind λp0=>
    d (p0.1,p0.2)
   else
   bif bp a.op 39 then
    (B0 (b,a) c).bind λq0=>
    d (q0.1,q0.2)
   else
   bif bp a.op 40 then
    (C0 (b,a) c).bind λr0=>
    d (r0.1,r0.2)
   else
   Y
  else G0 ((),e)) N ((),h)
abbrev Wm(a b c d e f g h i j k l m n o:(V Nat)×c8->Hp->V (Int×Hp))(p:(V Nat)×c8->V Int):Z (Nat×Z (b7 U)):=[(118,[⟨[ahx,ahu],[.v .I],Y,.st a⟩]),(120,[⟨[ahx,ahu],[.v .I],Y,.st b⟩]),(123,[⟨[ahx,ahu],[.v .I],Y,.st c⟩]),(125,[⟨[ahx,ahu],[.v .I],Y,.st d⟩]),(127,[⟨[ahx,ahu],[.v .I],Y,.st e⟩]),(128,[⟨[ahx,ahu],[.v .I],Y,.st f⟩]),(130,[⟨[ahx,ahu],[.v .I],Y,.st g⟩]),(131,[⟨[ahx,ahu],[.v .I],Y,.st h⟩]),(132,[⟨[ahx,ahu],[.v .I],Y,.pure p⟩]),(133,[⟨[ahx,ahu],[.v .I],Y,.st i⟩]),(134,[⟨[ahx,ahu],[.v .I],Y,.st j⟩]),(135,[⟨[ahx,ahu],[.v .I],Y,.st k⟩]),(137,[⟨[ahx,ahu],[.v .I],Y,.st l⟩]),(138,[⟨[ahx,ahu],[.v .I],Y,.st m⟩]),(139,[⟨[ahx,ahu],[.v .I],Y,.st n⟩]),(140,[⟨[ahx,ahu],[.v .I],Y,.st o⟩])]
def E25(N:Nat)(a b c d e f g i j k l m n o p:(V Nat)×c8->Hp->V (Int×Hp))(q:(V Nat)×c8->V Int):∀(x:V Nat)(h:Hp),vr (U:=U) (BB.Rq N (Wm a b c d e f g i j k l m n o p q) Vo) [ahx] [.v .I] Y [] f25.results.toList (f25.body.getD .skip) (.q (.q (.seq (O ⟨W,[],[],[],[]⟩) (.block (.loop ⟨W,[0,3],[],[3],[]⟩ (.q (.block (.q (.q (.q (.seq (O ⟨W,[0,3],[(5,.val .I)],[3],[]⟩) .aC .aC)))))))) .aC))) x h=aaE N a b c d e f g i j k l m n o p q x h:=by intros;kernel_rfl
def Wn:V Nat->Hp->V (Int×Hp):=aaE N (LB N) (OT N) (OU N) (OV N) (OW N) (LC N) (OX N) (LD N) (Lp N) (Lr N) (Ls N) (GD N) (Lt N) (Lu N) (Lv N) (R8 N)
abbrev K25:b7 U:=⟨[ahx],[.v .I],Y,.st (Wn N)⟩
def G25:Holds 25 (K25 N):=gF N Vo Vp f25 (.q (.q (.seq (O ⟨W,[],[],[],[]⟩) (.block (.loop ⟨W,[0,3],[],[3],[]⟩ (.q (.block (.q (.q (.q (.seq (O ⟨W,[0,3],[(5,.val .I)],[3],[]⟩) .aC .aC)))))))) .aC))) (con:=Wm (LB N) (OT N) (OU N) (OV N) (OW N) (LC N) (OX N) (LD N) (Lp N) (Lr N) (Ls N) (GD N) (Lt N) (Lu N) (Lv N) (R8 N)) (cn (afq N) (cn (afs N) (cn (afu N) (cn (afw N) (cn (afy N) (cn (afA N) (cn (afC N) (cn (afE N) (cn (afG N) (cn (aeX N) (cn (ae2 N) (cn (afc N) (cn (afe N) (cn (afg N) (cn (afj N) (cn (afl N) nl)))))))))))))))) (hF:=E25 N (LB N) (OT N) (OU N) (OV N) (OW N) (LC N) (OX N) (LD N) (Lp N) (Lr N) (Ls N) (GD N) (Lt N) (Lu N) (Lv N) (R8 N))
end
end Go.Proofs.Mo
