import Derived.Test.YtlacgaedkjhfhaaGreatDoorZC17
set_option linter.all false
set_option maxRecDepth 20000
open Option renaming some->O,none->Y
open Bool renaming true->W,false->F
open Go.Proofs.Tryz
noncomputable section
namespace Go.Proofs.Mo
open Go Go.Ev Go.X
variable{a b:Int}{s0 st:Z eT}{v:eT}{ls jD:Z PL}{c:Z c8}{P:Z db}{gls gls':Z (V (Z Int))}{zs l0:Z bJ}{n ci i:Nat}{α:Type}{L:Z bk}
structure Z4(N:Nat)(B:oI)(t:Option Nat)(G:Gm):Prop where
 below:∀h a b,B.ok h->T (GC N (t,a,b) h) λr=>r.1=G.below a b/\B.ok r.2/\r.2={h with dU:=r.2.dU,hQ:=r.2.hQ}
 under:∀h i n,a8 bp G.jt i=O n->T (RU N (G.m,n.iD) h) λr=>r.1=G.under n.iD/\r.2={h with Cc:=r.2.Cc,zf:=r.2.zf}
 afH:∀i n,a8 bp G.jt i=O n->(G.under n.iD).length<=1048576
def Yx(B:oI)(i:Nat)(h:Hp):Prop:=B.ok h/\∃e,h.fj[i]?=O e/\∃xs,ad h.sg e.fA=O xs
def EU(B:oI)(t:V Nat)(G:Gm)(i:Nat)(f s:Int)(ts:Z Int):jK KS->Int×Hp->Prop
 |.gd e,r=>r.1=e/\e≠0/\Yx B i r.2|.ok c k',r=>(f-s<c->r.1=100/\Yx B i r.2)/\(c<=f-s->r.1=0/\xZ B t G i r.2 f (s+c) k' ts)
section
variable{N:Nat}{B:oI}{t:V Nat}{G:Gm}{h:Hp}{i:Nat}{e:bO}{f s:Int}{k:KS}{ts:Z Int}
def xZ.bad (b:xZ B t G i h f s k ts):Yx B i h:=by obtain⟨e,c,a⟩:=b;exact⟨a.dU,e,c,a.sg⟩
def qa(b:s<=f){r:Int×Hp}{k':KS}(h0:r.1=0)(a:xZ B t G i r.2 f s k' ts):EU B t G i f s ts (.ok 0 k') r:=⟨λh=>M,λ_=>⟨h0,by rw[Int.add_zero];exact a⟩⟩
def R9(b:h.fj[i]?=O e)(a:ER B t G h e f s k ts)(c:k.stack.length<=1048576)(v:eT):T (gE N (O i,v) h) λr=>r.1=0/\xZ B t G i r.2 f s (k.push v) ts:=by refine⟨_,Vn b a.stack c v,rfl,_,hx (h:=h.aaD e.stack (k.stack++[v])) b _,?_⟩;exact⟨a.t,a.m,a.c,a.jt,a.self,a.bT,a.eC,a.eB,GK _ _ _,a.loops,a.fA,B.cK a.dU rfl rfl rfl rfl rfl rfl rfl rfl rfl⟩
def gG(b:s<=f)(c:h.fj[i]?=O e)(d:ER B t G h e f s k ts)(g:k.stack.length<=1048576)(v:eT):T ((gE N (O i,v) h).bind λy=>O (y.1,y.2)) (EU B t G i f s ts (.ok 0 (k.push v))):=aF (R9 c d g v) λr a=>ag (qa b a.1 a.2)
def ot(c:h.fj[i]?=O e)(b:ER B t G h e f s ⟨a,s0++[v],ls⟩ ts)(g:s0.length<=1048576):
  ∃p,Lo N (O i) h=O (v,h.run i {e with stack:=p})/\ER B t G (h.run i {e with stack:=p}) {e with stack:=p} f s ⟨a,s0,ls⟩ ts:=by
 obtain⟨p,h1,d⟩:=Vm (N:=N) c b.stack M;exact⟨p,h1,b.t,b.m,b.c,b.jt,b.self,b.bT,b.eC,b.eB,d,b.loops,b.fA,B.cK b.dU rfl rfl rfl rfl rfl rfl rfl rfl rfl⟩
def Vq(he:h.fj[i]?=O e)(h0:0<=e.eC)(b:e.eC<=e.bT)(c:e.bT<=1048576)(n:Int)(d:0<=n):
  Lm N (O i,n) h=if e.bT-e.eC<n then O (100,h)else O (0,h.run i {e with eC:=e.eC+n}):=by
 unfold Lm;simp only[aM,he,bw];rw[fG M M];by_cases a:e.bT-e.eC<n
 .rw[jg a,aj a];rfl
 .rw[kd a,ai a,fG M M];rfl
def GL(d:0<=s)(g:s<=f)(j:f<=1048576)(b:h.fj[i]?=O e)(a:ER B t G h e f s k ts)(n:Int)(l:0<=n):
  T (Lm N (O i,n) h) λr=>(f-s<n->r.1=100/\Yx B i r.2)/\(n<=f-s->r.1=0/\xZ B t G i r.2 f (s+n) k ts):=by
 rw[Vq b (by rw[a.eC];exact d) (by rw[a.eC,a.bT];exact g) (by rw[a.bT];exact j) n l,a.bT,a.eC];by_cases c:f-s<n
 .rw[aj c];exact ag ⟨λ_=>⟨rfl,a.dU,e,b,a.sg⟩,λh=>M⟩
 .rw[ai c];exact ag ⟨λh=>(c h).elim,λ_=>⟨rfl,_,hx b _,a.t,a.m,a.c,a.jt,a.self,rfl,rfl,a.eB,a.stack,a.loops,a.fA,B.cK a.dU rfl rfl rfl rfl rfl rfl rfl rfl rfl⟩⟩
variable{x:c8}
def aaF(a:0<=s)(b:s<=f)(c:f<=1048576)(d:xZ B t G i h f s k ts)(g:0<=x.arg):T (LB N (O i,x) h) (EU B t G i f s ts (.ok x.arg k)):=by obtain⟨e,j,l⟩:=d;unfold LB;exact aF (GL a b c j l x.arg g) λr m=>ag m
def aaG(a:s<=f)(b:xZ B t G i h f s k ts)(c:k.stack.length<=1048576):T (OT N (O i,x) h) (EU B t G i f s ts (.ok 0 (k.push (zi x.int)))):=by obtain⟨e,d,g⟩:=b;exact gG a d g c _
def aaH(a:s<=f)(b:xZ B t G i h f s k ts)(c:k.stack.length<=1048576):T (OU N (O i,x) h) (EU B t G i f s ts (.ok 0 (k.push (sV x.text)))):=by obtain⟨e,d,g⟩:=b;exact gG a d g c _
def aaI(a:s<=f)(b:xZ B t G i h f s k ts)(c:k.stack.length<=1048576):T (OV N (O i,x) h) (EU B t G i f s ts (.ok 0 (k.push (af W)))):=by obtain⟨e,d,g⟩:=b;exact gG a d g c _
def aaJ(a:s<=f)(b:xZ B t G i h f s k ts)(c:k.stack.length<=1048576):T (OW N (O i,x) h) (EU B t G i f s ts (.ok 0 (k.push (af F)))):=by obtain⟨e,d,g⟩:=b;exact gG a d g c _
def aaK(a:s<=f)(b:xZ B t G i h f s k ts)(c:k.stack.length<=1048576):T (OX N (O i,x) h) (EU B t G i f s ts (.ok 0 (k.push (nD 0)))):=by obtain⟨e,d,g⟩:=b;exact gG a d g c _
def aaL(c:s<=f)(d:xZ B t G i h f s k ts)(g:k.stack.length<=1048576):T (LC N (O i,x) h) (EU B t G i f s ts (.ok 0 (k.push (nD G.self)))):=by obtain⟨e,a,b⟩:=d;unfold LC;simp only[aM,a,b.self];exact gG c a b g _
def aaM(m:s<=f)(o:xZ B t G i h f s k ts)(p:k.stack.length<=1048576)(h0:0<=x.arg)(r:x.arg<k.loops.length)(I:k.loops.length<=1048576)(u:∀l∈k.loops,1<=l.dH/\l.dH<=l.fY.length/\l.fY.length<=1048576):
  T (LD N (O i,x) h) (EU B t G i f s ts (Cm x k)):=by
 obtain⟨e,d,g⟩:=o;obtain⟨ls,v,a⟩:=g.loops;rcases R7 v with⟨_,rfl⟩|⟨q,zs,w,z,J,A⟩
 .have:=a.len;simp at this;omega
 have K:=a.len;obtain⟨n,b⟩:=lG h0;rw[b]at r;have c:k.loops.length-1-n<k.loops.length:=M;have C:IntKind.i64.wrap (IntKind.i64.wrap (((ls.length:Nat):Int)-1)-(n:Int))=((k.loops.length-1-n:Nat):Int):=by rw[fG (x:=((ls.length:Nat):Int)-1) M M,fG M M];omega
 have D:zs[k.loops.length-1-n]?=O ls[k.loops.length-1-n]:=by
  have:(zs.take ls.length)[k.loops.length-1-n]?=ls[k.loops.length-1-n]?:=by rw[A]
  rw[gf,aj M]at this;rw[this];exact bS M
 have j:=a.one (k.loops.length-1-n) _ _ (bS M) (bS c);obtain⟨L,P,Q⟩:=u _ (gw c);unfold LD;simp only[aM,d,w,cU,b,C,z,dV,D,j.dH,j.fY];refine bY cM ?_;rw[fG M M];refine aH M M λy _ E=>?_;have H:Cm x k=.ok 0 (k.push (nD y)):=by unfold Cm;rw[b,dV,JF (bS c)];dsimp only;rw[JF E]
 rw[H];exact gG m d g p _
def aaN(g:s<=f){w:eT}(j:xZ B t G i h f s ⟨a,s0++[v]++[w],ls⟩ ts)(u:s0.length<=1048000)(hv:qC v)(k:qC w):
  T (Ls N (O i,x) h) (EU B t G i f s ts (Dq N x ⟨a,s0++[v]++[w],ls⟩)):=by
 obtain⟨e,he,l⟩:=j;obtain⟨p,h1,m⟩:=ot (N:=N) he l cM;obtain⟨y,n,b⟩:=ot (N:=N) (hx he _) m M;unfold Ls;simp only[h1,n,aM];obtain⟨r,c,z⟩:=Wj N x.op v w hv k;have o:Dq N x ⟨a,s0++[v]++[w],ls⟩=if r.2=0 then .ok 0 (KS.push ⟨a,s0,ls⟩ r.1)else .gd r.2:=by unfold Dq;rw[ll,lm,ll,lm,c]
 rw[c,o];simp only[aM];refine ba (λd=>?_) λq=>?_
 .rw[ai d];exact ag ⟨rfl,d,b.dU,_,hx (hx he _) _,b.sg⟩
 .rw[aj q];exact gG g (hx (hx he _) _) b (by show s0.length<=_;omega) _
end
section
variable{N:Nat}{B:oI}{t:V Nat}{G:Gm}{h:Hp}{i:Nat}{e:bO}{f s:Int}{k:KS}{ts:Z Int}{x:c8}
def ER.go (b:ER B t G h e f s k ts) (a:Int):ER B t G (h.run i {e with eB:=a}) {e with eB:=a} f s (k.go a) ts:=⟨b.t,b.m,b.c,b.jt,b.self,b.bT,b.eC,rfl,b.stack,b.loops,b.fA,B.cK b.dU rfl rfl rfl rfl rfl rfl rfl rfl rfl⟩
def Yy(c:s<=f)(d:xZ B t G i h f s k ts)(a:x.op=34):T (GD N (O i,x) h) (EU B t G i f s ts (hY x k)):=by
 obtain⟨e,b,g⟩:=d;have j:hY x k=.ok 0 (k.go x.arg):=by unfold hY;rw[aj a]
 rw[j];unfold GD;simp only[a,tj,bf,aM,b,bw];exact ag (qa c rfl ⟨_,hx b _,g.go x.arg⟩)
def aaO(d:s<=f)(n:xZ B t G i h f s ⟨a,s0++[v],ls⟩ ts)(r:s0.length<=1048000)(k:x.op≠34):
  T (GD N (O i,x) h) (EU B t G i f s ts (hY x ⟨a,s0++[v],ls⟩)):=by
 obtain⟨e,he,o⟩:=n;obtain⟨p,h1,c⟩:=ot (N:=N) he o M;have b:=hx he {e with stack:=p};have j:(KS.mk a s0 ls).stack.length<=1048576:=by show s0.length<=_;omega
 unfold GD hY;rw[ai k,ll,lm];simp only[ic.2 k,bq,h1,aM];apply ba<;>intro l
 .rw[ai l];exact ag ⟨rfl,cd,c.dU,_,b,c.sg⟩
 rw[aj l];apply aO<;>intro o1
 .rw[aj o1];exact gG d b c j _
 rw[ai o1];apply aO<;>intro o2
 .rw[aj o2];exact gG d b c j _
 rw[ai o2];apply aO<;>intro o3
 .rw[aj o3];refine az (λs'=>EU B t G i f s ts (if v.bool=W then .ok 0 ⟨a,s0,ls⟩else .ok 0 (KS.go ⟨a,s0,ls⟩ x.arg)) (0,s'.2)) (λJ m=>bZ (λg=>?_) λg=>?_) λs' q=>ag q
  .simp only[b,aM,bw];refine m _ ?_;rw[ai (by simp[g])];exact qa d rfl ⟨_,hx b _,c.go x.arg⟩
  .refine m _ ?_;rw[aj g];exact qa d rfl ⟨_,b,c⟩
 rw[ai o3];apply aO<;>intro g
 .rw[aj g];simp only[b,aM,bw];exact gG d (hx b _) (c.go x.arg) j _
 .rw[ai g];exact ag (qa d rfl ⟨_,b,c⟩)
def Nu{a:bJ}{b:PL}(h:Dt gls a b):∀q,rN a=O q->∃zs,bz gls q=O zs:=λq c=>by have d:=h.aq;unfold rN at c;obtain⟨⟨g,n⟩,e,rfl⟩:=ck.1 c;rw[e]at d;obtain⟨zs,f,_⟩:=hG.1 d;exact⟨zs,f⟩
def aaP(l:s<=f)(m:xZ B t G i h f s ⟨a,s0++[v],ls⟩ ts)(y:s0.length<=1048000)(z:ls.length<=1048576):
  T (Lt N (O i,x) h) (EU B t G i f s ts (yI x ⟨a,s0++[v],ls⟩)):=by
 obtain⟨e,he,n⟩:=m;obtain⟨p,h1,b⟩:=ot (N:=N) he n M;have c:=hx he {e with stack:=p};obtain⟨d,g,j⟩:=b.loops;have o:=j.len;unfold Lt yI;rw[ll,lm];simp only[h1,aM];apply ba<;>intro k
 .rw[ai k];exact ag ⟨rfl,cd,b.dU,_,c,b.sg⟩
 rw[aj k];dsimp only at o;have r:cR (cE 72 (d.length+[bJ.mk (fE.mk Y 0) x.op v.aq 0].length) 140737488355328)=O ():=fX (dG cM cM);have u:cR (!(d++[bJ.mk (fE.mk Y 0) x.op v.aq 0]).isEmpty)=O ():=fX aE;dsimp only at g;simp only[c,aM,g,r,u,bw];refine ag (qa l rfl ?_);refine⟨_,hx (h:={(h.run i {e with stack:=p})with jC:=_}) c _,b.t,b.m,b.c,b.jt,b.self,b.bT,b.eC,b.eB,b.stack,⟨_,GK _ _ _,?_⟩,b.fA,B.cK b.dU rfl rfl rfl rfl rfl rfl rfl rfl rfl⟩;exact j.OP ⟨rfl,rfl,rfl,rfl,rfl⟩ λa _ q _ w=>by simp[rN]at w
def EC(d:ER B t G h e f s k ts){pl:PL}(g:k.loops=jD++[pl])(n:jD.length<=1048576):
  ∃q zs l0 l,e.loops=O (q,jD.length+1)/\bz h.jC q=O zs/\zs[jD.length]?=O l/\jD.length+1<=zs.length/\zs.take jD.length=l0/\l0.length=jD.length/\Ng h.gls l0 jD/\Dt h.gls l pl/\(∀a∈l0,∀q,rN a=O q->rN l≠O q)/\IntKind.i64.wrap (((jD.length+1:Nat):Int)-1)=(jD.length:Int):=by
 obtain⟨o,i,c⟩:=d.loops;rw[g]at c;obtain⟨l0,l,rfl,b,j,m⟩:=c.h5;obtain⟨q,zs,e1,e2,e3,e4,e5⟩:=Ns i;rw[b.len]at e1 e3 e4 e5;exact⟨q,zs,l0,l,e1,e2,e3,e4,e5,b.len,b,j,m,by rw[fG M M];omega⟩
def ER.Vr (a:ER B t G h e f s k ts) {q:Nat} (b:bz h.jC q=O zs) (g:jD.length+1<=zs.length) (c:zs.take jD.length=l0) (d:Ng gls' l0 jD):
  ER B t G {h with gls:=gls'} {e with loops:=O (q,jD.length)} f s ⟨k.eB,k.stack,jD⟩ ts:=
 ⟨a.t,a.m,a.c,a.jt,a.self,a.bT,a.eC,a.eB,a.stack,⟨l0,by show ad h.jC _=_;rw[si b M,c],d⟩,a.fA,B.cK a.dU rfl rfl rfl rfl rfl rfl rfl rfl rfl⟩
def Nv(d:s<=f)(he:h.fj[i]?=O e){q:Nat}(e1:e.loops=O (q,n+1))(o:n<=1048576)(b:ER B t G h {e with loops:=O (q,n)} f s ⟨a,st,jD⟩ ts)(g:st.length<=1048576)(c:Int)(v:eT):
  T ((GF N (O i,c,v) h).bind λy=>O (y.1,y.2)) (EU B t G i f s ts (.ok 0 ⟨c,st++[v],jD⟩)):=by
 have hw:IntKind.i64.wrap (((n+1:Nat):Int)-1)=(n:Int):=by rw[fG M M];omega
 have j:ER B t G (h.run i {e with loops:=O (q,n),eB:=c}) {e with loops:=O (q,n),eB:=c} f s ⟨c,st,jD⟩ ts:=⟨b.t,b.m,b.c,b.jt,b.self,b.bT,b.eC,rfl,b.stack,b.loops,b.fA,B.cK b.dU rfl rfl rfl rfl rfl rfl rfl rfl rfl⟩
 have k:cR (decide (0<=(n:Int))&&decide (n<=n+1))=O ():=fX aE;unfold GF;have l:∀e',(h.fj.set i e')[i]?=O e':=λe'=>hx he e';simp only[aM,he,e1,cU,hw,dV,k,bw,l,zU];exact aF (gG d (hx he _) j g v) λr m=>ag m
def Sa{zs l0:Z α}(h:zs.take n=l0)(b:n+1<=zs.length)(x:α):(zs.set n x).take (n+1)=l0++[x]:=by have a:(zs.set n x).length=zs.length:=aE;rw[PC (by rw[a];omega),List.take_set_of_le (a6 _),h];simp
def ER.kQ (b:ER B t G h e f s k ts) {pl pl':PL} (c:k.loops=jD++[pl]) {q:Nat} {l':bJ} (d:e.loops=O (q,jD.length+1)) (g:bz h.jC q=O zs) (i:jD.length+1<=zs.length) (j:zs.take jD.length=l0)
   (l:Ng gls' l0 jD) (m:Dt gls' l' pl') (n:∀a∈l0,∀q,rN a=O q->rN l'≠O q):
  ER B t G {h with jC:=h.jC.set q (O (zs.set jD.length l')),gls:=gls'} e f s (k.kQ pl') ts:=by
 refine⟨b.t,b.m,b.c,b.jt,b.self,b.bT,b.eC,b.eB,b.stack,⟨l0++[l'],?_,?_⟩,b.fA,B.cK b.dU rfl rfl rfl rfl rfl rfl rfl rfl rfl⟩
 .show ad (h.jC.set q _) _=_;rw[d,si (xI g) cM,Sa j i]
 .show Ng gls' _ (k.kQ pl').loops;unfold KS.kQ;rw[c,List.dropLast_concat];exact l.OP m n
def ED{p:V (Nat×Nat)}{q:Nat}(h:p.map Prod.fst≠O q):bz (ek gls p) q=bz gls q:=by
 cases p with
 |none=>rfl|some p=>obtain⟨j,n⟩:=p;exact GJ λe=>h (by simp[e])
def aaQ(o:0<=s)(d:s<=f)(p:f<=1048576){pl:PL}(u:xZ B t G i h f s ⟨a,st,jD++[pl]⟩ ts)(A:st.length<=1048000)(g:jD.length<=1048576)
  (C:0<=pl.dH) (D:pl.dH<=pl.fY.length) (E:pl.fY.length<=1048576):T (Lu N (O i,x) h) (EU B t G i f s ts (yJ x ⟨a,st,jD++[pl]⟩)):=by
 obtain⟨e,he,c⟩:=u;obtain⟨q,zs,l0,l,e1,e2,e3,e4,e5,e6,j,b,m,hw⟩:=EC c rfl g;have v:cR (decide (0<=(jD.length:Int))&&decide ((jD.length:Int)<((jD.length+1:Nat):Int)))=O ():=fX cM;unfold Lu yJ;rw[p9,mN,wc];simp only[aM,he,e1,cU,hw,dV,v,e2,e3,bw];apply ao<;>intro k
 .simp only[aU,b.dH,b.fY]at k;rw[aj k];have n:=c.kQ (pl:=pl) rfl e1 e2 e4 e5 (l':=⟨l.cx,l.op,l.fY,IntKind.i64.wrap (l.dH+1)⟩) (pl':={pl with dH:=pl.dH+1}) j ⟨b.aq,b.sum,b.op,b.fY,by dsimp only;rw[b.dH,fG M M]⟩ m;rw[mN]at n;exact aF (GL o d p (by exact he) n 1 M) λr w=>ag w
 .simp only[cY,b.dH,b.fY]at k;rw[ai k];apply aO<;>intro o1
  .rw[b.op]at o1;have hv:zj pl=Cl pl.aq:=by unfold zj;rw[aj o1]
   rw[hv];simp only[b.aq,aM];exact Nv d (by exact he) e1 g (c.Vr (gls':=ek h.gls l.cx.aq) e2 e4 e5 (j.cK λa y q z=>ED (m a y q z))) (show st.length<=1048576 by omega) x.arg _
  rw[b.op]at o1;apply aO<;>intro o2
  .rw[b.op]at o2;have hv:zj pl=zi l.cx.sum:=by unfold zj;rw[ai o1,aj o2,b.sum]
   rw[hv];exact Nv d he e1 g (c.Vr (gls':=h.gls) e2 e4 e5 j) (show st.length<=1048576 by omega) x.arg _
  rw[b.op]at o2;have hv:zj pl=af (l.op==36):=by unfold zj;rw[ai o1,ai o2,b.op]
  rw[hv];exact Nv d he e1 g (c.Vr (gls':=h.gls) e2 e4 e5 j) (show st.length<=1048576 by omega) x.arg _
def aaR(P:s<=f){pl:PL}(p0:xZ B t G i h f s ⟨a,s0++[v],jD++[pl]⟩ ts)(D0:s0.length<=1048000)(d0:jD.length<=1048576)
  (hv:jc v.int) (e0:jc pl.sum) (E0:1<=pl.dH) (G0:pl.dH<=pl.fY.length) (I:pl.fY.length<=1048576) (H0:pl.aq.length<=1048576) {y:c8} (h0:0<=x.arg) (a0:G.c[x.arg.toNat]?=O y):
  T (Lv N (O i,x) h) (EU B t G i f s ts (yL G x ⟨a,s0++[v],jD++[pl]⟩)):=by
 obtain⟨e,he,f0⟩:=p0;obtain⟨q,zs,l0,l,e1,e2,e3,e4,e5,e6,m,b,g0,hw⟩:=EC f0 rfl d0;obtain⟨w,em,A,C,es,D,E,i0,I0,J0,H⟩:=e;dsimp only at e1;subst e1;obtain⟨p,h1,q0⟩:=ot (N:=N) he f0 M;have r0:cR (decide (0<=(jD.length:Int))&&decide ((jD.length:Int)<((jD.length+1:Nat):Int)))=O ():=fX cM;have t0:=hx he ⟨w,em,A,C,es,D,E,i0,p,O (q,jD.length+1),H⟩;have d:=q0.go (i:=i) x.arg;rw[Nt]at d;unfold Lv yL;rw[p9,ll,lm];have u0:KS.go ⟨a,s0,jD++[pl]⟩ x.arg=⟨x.arg,s0,jD++[pl]⟩:=rfl;rw[u0]at d⊢;rw[mN,mN];simp only[aM,he,cU,hw,dV,r0,h1,t0];show T (bw ((h.run i ⟨w,em,A,C,es,D,E,i0,p,O (q,jD.length+1),H⟩).run i ⟨w,em,A,C,es,D,E,x.arg,p,O (q,jD.length+1),H⟩) _) _;rw[Nt];refine ep ?_;have r:=hx he ⟨w,em,A,C,es,D,E,x.arg,p,O (q,jD.length+1),H⟩;have Q:(⟨w,em,A,C,es,D,E,x.arg,p,O (q,jD.length+1),H⟩:bO).loops=O (q,jD.length+1):=rfl;dsimp only at d;generalize(⟨w,em,A,C,es,D,E,x.arg,p,O (q,jD.length+1),H⟩:bO)=e' at r Q d⊢;have e2:bz (h.run i e').jC q=O zs:=e2;have m:Ng (h.run i e').gls l0 jD:=m;have b:Dt (h.run i e').gls l pl:=b;generalize h.run i e'=g at r d e2 m b⊢;have v0:e'.c=G.c:=d.c;simp only[e2,aM,e3,b.op];have b0:Yx B i g:=⟨d.dU,e',r,d.sg⟩
 have w0:∀R,T ((GF N (O i,R,v) g).bind λy=>O (y.1,y.2)) (EU B t G i f s ts (.ok 0 ⟨R,s0++[v],jD⟩)):=λR=>Nv P r Q d0 (d.Vr (gls':=g.gls) e2 e4 e5 m) (show s0.length<=1048576 by omega) R v;apply ao<;>intro o1
 .have o1:pl.op=38:=by simpa using o1
  rw[aj o1];apply ba<;>intro K
  .rw[ai K];exact ag ⟨rfl,cd,b0⟩
  rw[aj K];have j0:yK v.int pl.sum->T (O ((101:Int),g)) (EU B t G i f s ts (if yK v.int pl.sum then .gd 101 else .ok 0 ⟨x.arg,s0,jD++[{pl with sum:=pl.sum+v.int}]⟩)):=λc=>by rw[aj c];exact ag ⟨rfl,cd,b0⟩
  have S:¬yK v.int pl.sum->T (bw {g with jC:=g.jC.set q (O (zs.set jD.length (bJ.mk (fE.mk l.cx.aq (IntKind.i64.wrap (l.cx.sum+v.int))) l.op l.fY l.dH)))} λh=>O ((0:Int),h)) (EU B t G i f s ts (if yK v.int pl.sum then .gd 101 else .ok 0 ⟨x.arg,s0,jD++[{pl with sum:=pl.sum+v.int}]⟩)):=λc=>by rw[ai c];have m0:=Ez hv e0 c;have L:=d.kQ (pl:=pl) rfl Q e2 e4 e5 (gls':=g.gls) (l':=⟨⟨l.cx.aq,IntKind.i64.wrap (l.cx.sum+v.int)⟩,l.op,l.fY,l.dH⟩) (pl':={pl with sum:=pl.sum+v.int}) m ⟨b.aq,by dsimp only;rw[b.sum,fG m0.1 m0.2],b.op,b.fY,b.dH⟩ g0;rw[mN]at L;exact ep (ag (qa P rfl ⟨_,r,L⟩))
  unfold jc at hv e0;simp only[b.sum,b.op]at S⊢;apply a7<;>intro x0
  .rw[fG M M];refine a7 (λn=>j0 (.inl ⟨x0,n⟩)) λn=>a7 (λU=>M) λU=>S λc=>?_;rcases c with c|c<;>omega
  .refine a7 (λU=>?_) λU=>S λc=>?_
   .rw[fG M M];refine a7 (λn=>j0 (.inr ⟨U,n⟩)) λn=>S λc=>?_;rcases c with c|c<;>omega
   .rcases c with c|c<;>omega
 have o1:¬pl.op=38:=by simpa using o1
 rw[ai o1];refine az (λs'=>EU B t G i f s ts (if v.kind=3 then(if pl.op=37 then(if v.bool=W then .ok 0 ⟨x.arg,s0,jD++[{pl with aq:=pl.aq++[pl.fY.getD (pl.dH-1).toNat 0]}]⟩else .ok 0 ⟨x.arg,s0,jD++[pl]⟩)else if v.bool=(pl.op==35)then .ok 0 (KS.I7 ⟨a,s0,jD++[pl]⟩ (G.c.getD x.arg.toNat ⟨0,0,0,[]⟩).arg v)else .ok 0 ⟨x.arg,s0,jD++[pl]⟩)else .gd 90) (0,s'.2)) (λJ k=>?_) λs' y0=>ag y0;apply ba<;>intro K
 .rw[ai K];exact ag ⟨rfl,cd,b0⟩
 rw[aj K]at k⊢;have n0:EU B t G i f s ts (.ok 0 ⟨x.arg,s0,jD++[pl]⟩) (0,g):=qa P rfl ⟨_,r,d⟩;rw[wc,JF a0]at k⊢;apply ao<;>intro o2
 .have o2:pl.op=37:=by simpa using o2
  rw[aj o2]at k⊢;apply ao<;>intro o
  .rw[aj o]at k⊢;simp only[b.fY,b.dH];rw[fG M M];refine aH M M λz _ A0=>?_;rw[JF A0]at k⊢;simp only[b.aq,aM];refine bY (dG cM cM) (ep (bY aE (ep ?_)));simp only[e2,aM,e3];refine ep (k _ ?_);have L:=d.kQ (pl:=pl) rfl Q e2 e4 e5 (gls':=ek g.gls l.cx.aq++[O (pl.aq++[z])]) (l':=⟨⟨O ((ek g.gls l.cx.aq).length,(pl.aq++[z]).length),l.cx.sum⟩,l.op,l.fY,l.dH⟩) (pl':={pl with aq:=pl.aq++[z]})
    (m.cK λa X q n=>?_) ⟨GK _ _ _,b.sum,b.op,b.fY,b.dH⟩ λa X q n B0=>?_
   .rw[mN]at L;refine qa P rfl ⟨_,r,?_⟩;exact L
   .obtain ⟨j,u,rfl⟩:=gX X;obtain⟨C0,c0⟩:=Nu (m.one j _ _ (bS u) (bS (by rw[<-m.len];exact u))) q n;have o0:=ED (gls:=g.gls) (g0 _ X q n);rw[c0]at o0⊢;exact OS o0
   .obtain ⟨j,u,rfl⟩:=gX X;obtain⟨C0,c0⟩:=Nu (m.one j _ _ (bS u) (bS (by rw[<-m.len];exact u))) q n;have:=W2 c0;simp only[rN,cj,ax,R6]at B0;omega
  .rw[ai (by simp[o])]at k⊢;refine bZ (λI=>?_) λI=>k ((),g) n0;have:¬pl.op=37:=by simpa using I
   exact(this o2).elim
 .have o2:¬pl.op=37:=by simpa using o2
  rw[ai o2]at k⊢;apply bZ<;>intro I
  .apply ao<;>intro o
   .have o:v.bool=(pl.op==35):=by simpa using o
    rw[aj o];simp only[r,aM,v0];obtain⟨j,u⟩:=lG h0;rw[u,dV]at a0;have:aR G.c x.arg=O y:=by rw[u,nz];exact a0
    simp only[this,aM];exact w0 _
   .have o:¬v.bool=(pl.op==35):=by simpa using o
    rw[ai o]at k⊢;exact k ((),g) n0
  .have:pl.op=37:=by simpa using I
   exact(o2 this).elim
end
section
variable{N:Nat}(hN:1073741824<=N){B:oI}{t:V Nat}{G:Gm}{h:Hp}{i:Nat}{e:bO}{f s:Int}{k:KS}{ts:Z Int}{x:c8}
include hN
theorem GM(u:s<=f)(m:xZ B t G i h f s ⟨a,s0++[v],ls⟩ ts)(w:s0.length<=1048000){K:(Nd×Int)×Hp->V (Int×Hp)}{j:Nd->jK KS}
  (o:∀n g,a8 bp G.jt v.node=O n->xZ B t G i g f s ⟨a,s0,ls⟩ ts->T (K ((n,0),g)) (EU B t G i f s ts (j n))):
  T ((OO N (O i) h).bind λy=>bif !(y.1.2==0)then O (y.1.2,y.2)else K y) (EU B t G i f s ts (p8 G v j)):=by
 obtain⟨e,he,q⟩:=m;obtain⟨p,h1,b⟩:=ot (N:=N) he q M;have d:=hx he {e with stack:=p};have k:Yx B i (h.run i {e with stack:=p}):=⟨b.dU,_,d,b.sg⟩
 have l:=b.jt;dsimp only at l;unfold OO p8;simp only[h1,aM];by_cases c:v.kind=4
 .rw[aj c];simp only[c,tj,kb,bq,d,aM,l];cases r:a8 bp G.jt v.node with
  |none=>exact ag ⟨rfl,cd,k⟩|some n=>exact o n _ r ⟨_,d,b⟩
 .rw[ai c];simp only[ic.2 c,M3,bf,aM];exact ag ⟨rfl,cd,k⟩
omit hN in
theorem pu{l:Z α}{p:Nat}{z:α}(h:l[p]?=O z):l.take (p+1)=l.take p++[z]:=by obtain⟨hi,rfl⟩:=aY.1 h;exact(ah hi).symm
theorem aaS(b1:0<=s)(X:s<=f)(B0:f<=1048576)(a0:Z4 N B t G)(C0:Ds G)(D0:xZ B t G i h f s ⟨a,s0++[v],ls⟩ ts)(E0:s0.length<=1048000)(c1:10<=x.op)(d1:x.op<=15):
  T (Lp N (O i,x) h) (EU B t G i f s ts (Lw G x ⟨a,s0++[v],ls⟩)):=by
 unfold Lp Lw;rw[ll,lm];refine GM hN X D0 E0 λn g f0 G0=>?_;have P:=C0.jt _ _ f0;obtain⟨e,he,b⟩:=G0;have g0:(KS.mk a s0 ls).stack.length<=1048576:=by show s0.length<=_;omega
 have b0:∀w,T ((gE N (O i,w) g).bind λy=>O (y.1,y.2)) (EU B t G i f s ts (.ok 0 (KS.push ⟨a,s0,ls⟩ w))):=λw=>gG X he b g0 w;have n0:=b.jt;dsimp only;refine aO (λo=>?_) λo1=>?_
 .rw[aj o];refine az (λs'=>s'.1=n.bl.foldl (λs p=>if p.name=x.text then p.value else s) []) (λJ H=>?_) λs' d=>?_
  .refine aP (λs'=>0<=s'.1.2/\s'.1.2<=n.bl.length/\s'.1.1=(n.bl.take s'.1.2.toNat).foldl (λs p=>if p.name=x.text then p.value else s) []) (λs'=>(n.bl.length-s'.1.2).toNat) ⟨aE,aE,aE⟩ (by have:=P.bl.1;dsimp only;omega) ?_;rintro rec ⟨⟨R,p⟩,u⟩ ⟨A,I,c⟩ K;have o0:=P.bl.1;dsimp only at A I c⊢;refine a7 (λC=>?_) λC=>H _ ?_
   .refine az (λs'=>s'.1=(n.bl.take (p.toNat+1)).foldl (λs p=>if p.name=x.text then p.value else s) []) (λh0 m=>?_) λs' d=>?_
    .refine aH A C λz _ L=>?_;have D:=pu L;refine aO (λj=>m _ ?_) λj=>m _ ?_<;>dsimp only<;>rw[D,L8,<-c]
     .simp[j]
     .simp[j]
    .refine K _ ⟨?_,?_,?_⟩ ?_<;>dsimp only<;>rw[fG M M]
     .omega
     .omega
     .rw[(M:(p+1).toNat=p.toNat+1)];exact d
     .omega
   .dsimp only;rw[dh M]at c;exact c
  .obtain ⟨w,u⟩:=s';dsimp only at d;subst d;exact b0 _
 rw[ai o1];refine aO (λo=>?_) λo2=>?_
 .rw[aj o];refine az (λs'=>s'.1=n.bj.filter λq=>(G.nd q).role==x.text) (λJ H=>?_) λs' d=>?_
  .refine aP (λs'=>0<=s'.1.2/\s'.1.2<=n.bj.length/\s'.1.1=(n.bj.take s'.1.2.toNat).filter λq=>(G.nd q).role==x.text) (λs'=>(n.bj.length-s'.1.2).toNat) ⟨aE,aE,aE⟩ (by have:=P.bj;dsimp only;omega) ?_;rintro rec ⟨⟨R,p⟩,u⟩ ⟨A,I,c⟩ K;have o0:=P.bj;dsimp only at A I c⊢;have H0:R.length<=1048576:=by rw[c];have:=Hi (λq=>(G.nd q).role==x.text) (n.bj.take p.toNat);rw[jE]at this;omega
   refine a7 (λC=>?_) λC=>H _ ?_
   .refine az (λs'=>s'.1=(n.bj.take (p.toNat+1)).filter λq=>(G.nd q).role==x.text) (λh0 m=>?_) λs' d=>?_
    .refine aH A C λz _ L=>?_;have D:=pu L;simp only[aM,he,n0];refine ao (λj=>bY (dG cM cM) (m _ ?_)) λj=>m _ ?_<;>dsimp only<;>rw[D,List.filter_append,<-c]
     .rw[List.filter_cons_of_pos (by exact j)];rfl
     .rw[List.filter_cons_of_neg (by rw[LY];exact j)];simp
    .refine K _ ⟨?_,?_,?_⟩ ?_<;>dsimp only<;>rw[fG M M]
     .omega
     .omega
     .rw[(M:(p+1).toNat=p.toNat+1)];exact d
     .omega
   .dsimp only;rw[dh M]at c;exact c
  .obtain ⟨w,u⟩:=s';dsimp only at d;subst d;exact b0 _
 rw[ai o2];refine aO (λo=>?_) λo3=>?_
 .rw[aj o];refine az (λs'=>s'.1=n.ab.foldl (λS f=>if f.role=x.text/\(a8 bp G.jt f.target).isSome=W then f.target else S) 0/\s'.2=g) (λJ H=>?_) λs' d=>?_
  .refine aP (λs'=>0<=s'.1.2/\s'.1.2<=n.ab.length/\s'.1.1=(n.ab.take s'.1.2.toNat).foldl (λS f=>if f.role=x.text/\(a8 bp G.jt f.target).isSome=W then f.target else S) 0/\s'.2=g) (λs'=>(n.ab.length-s'.1.2).toNat) ⟨aE,aE,aE,rfl⟩ (by have:=P.ab;dsimp only;omega) ?_;rintro rec ⟨⟨R,p⟩,u⟩ ⟨A,I,c,E⟩ K;have o0:=P.ab;dsimp only at A I c E⊢;subst E;refine a7 (λC=>?_) λC=>H _ ⟨?_,rfl⟩
   .refine az (λs'=>s'.1=(n.ab.take (p.toNat+1)).foldl (λS f=>if f.role=x.text/\(a8 bp G.jt f.target).isSome=W then f.target else S) 0/\s'.2=u) (λh0 m=>?_) λs' d=>?_
    .refine aH A C λz _ L=>?_;have D:=pu L;have I0:Vg N (O i,z.target) u=O ((a8 bp G.jt z.target).isSome,u):=by unfold Vg;simp only[aM,he,n0]
     refine aO (λj=>?_) λj=>m _ ⟨?_,rfl⟩
     .rw[I0];simp only[aM];refine ao (λU=>m _ ⟨?_,rfl⟩) λU=>m _ ⟨?_,rfl⟩<;>dsimp only<;>rw[D,L8,<-c]
      .simp[j,U]
      .simp[U]
     .dsimp only;rw[D,L8,<-c];simp[j]
    .refine K _ ⟨?_,?_,?_,d.2⟩ ?_<;>dsimp only<;>rw[fG M M]
     .omega
     .omega
     .rw[(M:(p+1).toNat=p.toNat+1)];exact d.1
     .omega
   .dsimp only;rw[dh M]at c;exact c
  .obtain ⟨w,u⟩:=s';obtain⟨p0,q0⟩:=d;dsimp only at p0 q0;subst p0 q0;exact b0 _
 rw[ai o3];refine aO (λo=>?_) λJ0=>?_
 .rw[aj o];exact b0 _
 rw[ai J0];have r0:∀{g g':Hp}{e:bO}{s:Int}{k:KS},ER B t G g e f s k ts->B.ok g'->g'={g with dU:=g'.dU,hQ:=g'.hQ}->ER B t G g' e f s k ts:=λ{g g' e s k} b K0 Q=>⟨b.t,b.m,b.c,by rw[Q];exact b.jt,b.self,b.bT,b.eC,b.eB,by rw[Q];exact b.stack,by rw[Q];exact b.loops,by rw[Q];exact b.fA,K0⟩
 have t0:∀{g g':Hp}{e:bO},g.fj[i]?=O e->g'={g with dU:=g'.dU,hQ:=g'.hQ}->g'.fj[i]?=O e:=λ{g g' e} h Q=>by rw[Q];exact h
 refine aO (λo=>?_) λL0=>?_
 .rw[aj o];simp only[aM,he,b.t];refine aF (a0.below g n.aw x.text b.dU) λr ⟨i0,j0,u0⟩=>?_;rw[i0];exact gG X (t0 he u0) (r0 b j0 u0) g0 _
 rw[ai L0];have f1:=a0.afH _ _ f0;refine az (λs'=>(G.under n.iD).length<=f-s/\s'.1=(G.under n.iD).filter (λq=>G.below (G.nd q).aw x.text)/\xZ B t G i s'.2 f (s+(G.under n.iD).length) ⟨a,s0,ls⟩ ts) (λJ H=>?_) λs' d=>?_
 .simp only[aM,he,b.m];refine aF (a0.under g _ n f0) λr ⟨i0,j0⟩=>?_;rw[i0];generalize g1:G.under n.iD=l at*;have N0:xZ B t G i r.2 f (s+0) ⟨a,s0,ls⟩ ts:=by rw[j0,Int.add_zero];exact⟨e,he,b.t,b.m,b.c,b.jt,b.self,b.bT,b.eC,b.eB,b.stack,b.loops,b.fA,B.cK b.dU rfl rfl rfl rfl rfl rfl rfl rfl rfl⟩
  refine aP (λs'=>0<=s'.1.2/\s'.1.2<=l.length/\s+s'.1.2<=f/\s'.1.1=(l.take s'.1.2.toNat).filter (λq=>G.below (G.nd q).aw x.text)/\xZ B t G i s'.2 f (s+s'.1.2) ⟨a,s0,ls⟩ ts) (λs'=>(l.length-s'.1.2).toNat) ⟨aE,aE,by simpa using X,aE,N0⟩ dY ?_;rintro rec ⟨⟨R,p⟩,u⟩ ⟨A,I,c,E,l0⟩ K;dsimp only at A I c E l0⊢;have H0:R.length<=1048576:=by rw[E];have:=Hi (λq=>G.below (G.nd q).aw x.text) (l.take p.toNat);rw[jE]at this;omega
  refine a7 (λC=>?_) λC=>H _ ?_
  .refine az (λs'=>s+(p+1)<=f/\s'.1=(l.take (p.toNat+1)).filter (λq=>G.below (G.nd q).aw x.text)/\xZ B t G i s'.2 f (s+(p+1)) ⟨a,s0,ls⟩ ts) (λh0 m=>?_) λs' d=>?_
   .refine aH A C λz _ L=>?_;have D:=pu L;obtain⟨h1,P0,Q0⟩:=l0;refine aF (GL M c B0 P0 Q0 1 M) λr ⟨q1,c0⟩=>?_;by_cases R0:f-(s+p)<1
    .obtain ⟨m0,d0⟩:=q1 R0;rw[m0];refine ag ⟨λ_=>⟨rfl,d0⟩,λh=>?_⟩;omega
    .obtain ⟨m0,e3,d0,e0⟩:=c0 M;have S0:=e0.jt;rw[m0];simp only[tj,kb,bq,aM,d0,e0.t,S0];refine aF (a0.below r.2 _ x.text e0.dU) λw ⟨T0,U0,v0⟩=>?_;have w0:xZ B t G i w.2 f (s+(p+1)) ⟨a,s0,ls⟩ ts:=⟨e3,t0 d0 v0,by have:=r0 e0 U0 v0;rw[(M:s+(p+1)=s+p+1)];exact this⟩
     have x0:G.below (G.nd z).aw x.text=w.1:=T0.symm;refine ao (λj=>bY (dG cM cM) (m _ ⟨M,?_,w0⟩)) λj=>m _ ⟨M,?_,w0⟩<;>dsimp only<;>rw[D,List.filter_append,<-E]
     .rw[List.filter_cons_of_pos (by rw[x0];exact j)];rfl
     .rw[List.filter_cons_of_neg (by rw[x0,j];decide)];simp
   .obtain ⟨i1,s2,X0⟩:=d;refine K _ ⟨?_,?_,?_,?_,?_⟩ ?_<;>dsimp only<;>rw[fG M M]
    .omega
    .omega
    .omega
    .rw[(M:(p+1).toNat=p.toNat+1)];exact s2
    .exact X0
    .omega
  .have a1:p=l.length:=M;subst a1;rw[dV,lW]at E;exact⟨M,E,l0⟩
 .obtain ⟨w,g'⟩:=s';obtain⟨q1,c0,e',y0,A0⟩:=d;dsimp only at c0 y0 A0;subst c0;refine fh (aF (R9 y0 A0 g0 _) λr U=>ag ⟨λh=>M,λ_=>U⟩)
theorem aaT(j:s<=f)(R:Ds G)(u:xZ B t G i h f s ⟨a,s0++[v],ls⟩ ts)(D:s0.length<=1048000)(hv:qC v)(S:16<=x.op)(U:x.op<=21):
  T (Lr N (O i,x) h) (EU B t G i f s ts (wa G x ⟨a,s0++[v],ls⟩)):=by
 have A:(KS.mk a s0 ls).stack.length<=1048576:=by show s0.length<=_;omega
 unfold Lr wa;rw[ll,lm];refine aO (λo=>?_) λo1=>?_
 .rw[aj o];refine GM hN j u D λn g J ⟨e,he,k⟩=>aO (λE=>M) λ_=>gG j he k A _
 rw[ai o1];refine aO (λo=>?_) λo2=>?_
 .rw[aj o];refine GM hN j u D λn g J ⟨e,he,k⟩=>aO (λ_=>gG j he k A _) λE=>(E o).elim
 rw[ai o2];obtain⟨e,he,k⟩:=u;obtain⟨p,h1,C⟩:=ot (N:=N) he k M;have H:=hx he {e with stack:=p};have m:∀c:Int,c≠0->T (O (c,h.run i {e with stack:=p})) (EU B t G i f s ts (.gd c)):=λc q=>ag ⟨rfl,q,C.dU,_,H,C.sg⟩;have r:∀w,T ((gE N (O i,w) (h.run i {e with stack:=p})).bind λy=>O (y.1,y.2)) (EU B t G i f s ts (.ok 0 (KS.push ⟨a,s0,ls⟩ w))):=λw=>gG j H C A w;rw[h1];simp only[aM];generalize h.run i {e with stack:=p}=g at*;have K:x.op=16∨x.op=17∨x.op=18∨x.op=21:=M;rcases K with o|o|o|o
 .rw[aj o];simp only[o,Int.reduceBEq,bf,bq];apply aO<;>intro b
  .rw[aj b];exact r _
  .rw[ai b];exact m 90 cd
 .rw[ai M,aj o];simp only[o,Int.reduceBEq,bf,bq];apply aO<;>intro b
  .rw[aj b];have X:=hv.aq;have L:v.aq.take ((v.aq.length:Int).toNat)=v.aq:=dh M;rw[L];refine bY aE (bY (by rw[dG cM cM,Bool.and_true];simp) (aH M aE λz _ d=>?_));have:z=v.aq.headD 0:=by
    cases q:v.aq with
    |nil=>rw[q]at d;simp at d;rw[<-d];try rfl|cons y l=>rw[q]at d;simp at d;rw[<-d];try rfl
   rw[<-this];exact r _
  .rw[ai b];exact m 90 cd
 .rw[ai M,ai M,aj o];simp only[o,Int.reduceBEq,bf,bq];apply aO<;>intro b
  .rw[aj b];have P:Lq N v.int=O (Lib.itoa v.int):=by have hi:=hv.int;unfold Lq XW;dsimp only;rw[fX (by unfold jc at hi;simp;omega)];rfl
   rw[P];exact r _
  .rw[ai b];exact m 90 cd
 .rw[ai M,ai M,ai M];simp only[o,Int.reduceBEq,bf,bq];apply aO<;>intro b
  .rw[aj b];have Q:Cg N v.text=O (mM v.text):=by have hi:=hv.text;unfold Cg;rw[fX cM];rfl
   rw[Q];simp only[aM];apply ba<;>intro I
   .rw[ai I];exact m 103 cd
   .rw[aj I];exact r _
  .rw[ai b];exact m 90 cd
end
section
variable{c:Z c8}{P:Z db}{k:KS}{x:c8}
structure Ti(c:List c8)(k:KS)(x:c8):Prop where
 arg:0<=x.arg
 op:1<=x.op/\x.op<=40
 len:k.stack.length<=1024/\k.loops.length<=1024
 one:(10<=x.op/\x.op<=21∨29<=x.op/\x.op<=33∨35<=x.op/\x.op<=38∨x.op=40)->∃s0 v,k.stack=s0++[v]
 fO:(22<=x.op/\x.op<=28)->∃s0 v w,k.stack=s0++[v]++[w]
 load:x.op=8->x.arg<k.loops.length
 loops:(x.op=39∨x.op=40)->∃jD pl,k.loops=jD++[pl]
 ag8:x.op≠39->∀l∈k.loops,1<=l.dH
 ahe:∀l∈k.loops,0<=l.dH/\l.dH<=l.fY.length/\l.fY.length<=1048576/\l.aq.length<=1048576/\jc l.sum
 ahf:x.op=40->∃y,c[x.arg.toNat]?=O y
def iq(o:pq c P)(B:Cn c P k)(m:c[k.eB.toNat]?=O x):Ti c k x:=by
 obtain⟨K,st,ls⟩:=k;obtain⟨u,⟨L,n,h⟩,hv⟩:=B;dsimp only at u n h hv m;obtain⟨i,rfl⟩:=lG u;rw[dV]at m n;obtain⟨h',N,z,A,hi⟩:=o.pX i x m;rw[n]at z;obtain⟨_,rfl,rfl⟩:=db.mk.inj (cr z);have p:=o.jw i _ _ n;have Q:=Np p;have R:=o.oo;have S:=(aY.1 m).1;have C:=h.1;have T:=p.h1;have U:=p.len;have one:(10<=x.op/\x.op<=21∨29<=x.op/\x.op<=33∨35<=x.op/\x.op<=38∨x.op=40)->1<=st.length:=λf=>by
  cases hi with
  |same a b=>have:=b M;omega|load a=>omega
  |put a=>omega|fO a=>omega
  |sW a b=>omega|acq a b=>omega
  |Dr a=>omega|loop a b=>omega
  |next a=>omega|take a g l d hi q=>have:=OR g l;rw[<-d]at this;omega
 refine⟨A.arg,A.op,⟨dY,dY⟩,λf=>fP (one f),λf=>?_,λf=>?_,λf=>?_,λf l d=>?_,λl d=>?_,λf=>?_⟩
 .cases hi with
  |fO a b=>obtain⟨D,w,rfl⟩:=fP (st:=st) M;rw[fv]at b;obtain⟨s0,v,rfl⟩:=fP (st:=D) M;exact⟨s0,v,w,rfl⟩|same a=>omega|load a=>omega
  |put a=>omega|sW a b=>omega
  |acq a b=>omega|Dr a=>omega
  |loop a b=>omega|next a=>omega
  |take a g l d hi q=>omega
 .cases hi with
  |load a s=>dsimp only;rw[<-C];exact s|same a=>omega
  |fO a=>omega|put a=>omega
  |sW a b=>omega|acq a b=>omega
  |Dr a=>omega|loop a b=>omega
  |next a=>omega|take a g l d hi q=>omega
 .cases hi with
  |next a g l d=>subst d;obtain ⟨jD,pl,e,_⟩:=h.h5;exact ⟨jD,pl,e⟩|take a g l d hi q=>subst d;obtain ⟨jD,pl,e,_⟩:=h.h5;exact ⟨jD,pl,e⟩
  |load a s=>omega|same a=>omega
  |fO a=>omega|put a=>omega
  |sW a b=>omega|acq a b=>omega
  |Dr a=>omega|loop a b=>omega
 .have E:=wb o n h λy r=>by rw[m]at r;cases r;exact f
  dsimp only at d;obtain⟨j,t,rfl⟩:=gX d;have:=E j L[j] _ (bS M) (bS t);omega
 .dsimp only at d;obtain⟨j,t,rfl⟩:=gX d;obtain⟨q1,G,H,X,b0,I,J⟩:=h.2 j L[j] _ (bS M) (bS t);exact⟨G,H,I,M,J⟩
 .cases hi with
  |take a g l d hi q=>subst d;obtain⟨_,_,_,_,y,r,_⟩:=p.loops g.length l aE;rw[hi];exact ⟨y,r⟩|next a=>omega|load a s=>omega
  |same a=>omega|fO a=>omega
  |put a=>omega|sW a b=>omega
  |acq a b=>omega|Dr a=>omega
  |loop a b=>omega
end
def xJ(N:Nat)(G:Gm)(k:KS×Z Int):jK (KS×Z Int):=match G.c[k.1.eB.toNat]? with
 |none=>.gd 1|some x=>match fI N G x (k.1.go (k.1.eB+1))with
  |.gd e=>.gd e|.ok c k'=>.ok c (k',k.2.set k.1.eB.toNat (k.2.getD k.1.eB.toNat 0+1))
def I9(G:Gm)(k:KS×Z Int):tl:=decide ((G.c.length:Int)<=k.1.eB)
def we(N:Nat)(G:Gm)(n:Nat)(f s:Int)(k:KS×Z Int):V (jK (KS×Z Int)):=runK (I9 G) (xJ N G) n f s k
def WU(B:oI)(t:V Nat)(G:Gm)(P:Z db)(i:Nat)(f:Int):jK (KS×Z Int)->Int×Hp->Prop
 |.gd e,r=>r.1=e/\e≠0/\Yx B i r.2|.ok s k,r=>r.1=0/\xZ B t G i r.2 f s k.1 k.2/\Cn G.c P k.1/\(G.c.length:Int)<=k.1.eB
def Ja{σ β:Type}{f:(σ->V β)->σ->V β}{P:β->Prop}(I:Nat->σ->Prop)
  (step:∀(rec:σ->V β) m s,I m s->(∀a s',I a s'->a<m->T (rec s') P)->T (f rec s) P):∀{N m:Nat}{s:σ},I m s->m<N->T (aZ f N s) P
 |0,_,_,_,h=>M|N+1,m,s,h0,h=>step _ m s h0 λa s' b c=>Ja I step b M
def xK(b:pq c P){f s:Int}{k:KS}(a:Cn c P k)(e:s<=f):0<=mu c f s k:=by obtain⟨L,d,_⟩:=a.jw;have:=RY b d;have:=a.at0;unfold mu;split<;>omega
def eD(h:bp a b=W):a=b:=by simpa[bp]using h
def eE(h:bp a b=F):a≠b:=by simpa[bp]using h
section
variable{N:Nat}(hN:1073741824<=N){B:oI}{t:V Nat}{G:Gm}{P:Z db}{h:Hp}{i:Nat}{f s:Int}{k:KS}{ts:Z Int}
include hN
theorem Vt(I:pq G.c P)(K:Z4 N B t G)(A:Ds G)(C:Cn G.c P k){x:c8}(L:G.c[k.eB.toNat]?=O x)(p:0<=s)(b:s<=f)(q:f<=1048576)(a:xZ B t G i h f s (k.go (k.eB+1)) ts)
  {β:Type} {J:Int×Hp->V β} {Q:β->Prop} (n:∀r,EU B t G i f s ts (fI N G x (k.go (k.eB+1))) r->T (J r) Q):
  (1<=x.op/\x.op<=40)/\
  (x.op=1->T ((LB N (O i,x) h).bind λy=>J (y.1,y.2)) Q)/\(x.op=2->T ((OT N (O i,x) h).bind λy=>J (y.1,y.2)) Q)/\(x.op=3->T ((OU N (O i,x) h).bind λy=>J (y.1,y.2)) Q)/\
  (x.op=4->T ((OV N (O i,x) h).bind λy=>J (y.1,y.2)) Q)/\(x.op=5->T ((OW N (O i,x) h).bind λy=>J (y.1,y.2)) Q)/\(x.op=6->T ((LC N (O i,x) h).bind λy=>J (y.1,y.2)) Q)/\
  (x.op=7->T ((OX N (O i,x) h).bind λy=>J (y.1,y.2)) Q)/\(x.op=8->T ((LD N (O i,x) h).bind λy=>J (y.1,y.2)) Q)/\(x.op=9->T ((R8 N (O i,x)).bind λy=>J (y,h)) Q)/\
  (10<=x.op/\x.op<=15->T ((Lp N (O i,x) h).bind λy=>J (y.1,y.2)) Q)/\(16<=x.op/\x.op<=21->T ((Lr N (O i,x) h).bind λy=>J (y.1,y.2)) Q)/\(22<=x.op/\x.op<=28->T ((Ls N (O i,x) h).bind λy=>J (y.1,y.2)) Q)/\
  (29<=x.op/\x.op<=34->T ((GD N (O i,x) h).bind λy=>J (y.1,y.2)) Q)/\(35<=x.op/\x.op<=38->T ((Lt N (O i,x) h).bind λy=>J (y.1,y.2)) Q)/\(x.op=39->T ((Lu N (O i,x) h).bind λy=>J (y.1,y.2)) Q)/\
  (x.op=40->T ((Lv N (O i,x) h).bind λy=>J (y.1,y.2)) Q):=by
 obtain⟨u,g2,⟨d,z⟩,g5,g6,g7,g8,g9,g10,S⟩:=iq I C L;have j:=C.aaz;obtain⟨m,st,ls⟩:=k;dsimp only at d z g5 g6 g7 g8 g9 g10 j;have U:KS.go ⟨m,st,ls⟩ (m+1)=⟨m+1,st,ls⟩:=rfl;dsimp only at a n;rw[U]at a n;have c:∀{o:V (Int×Hp)}{R:jK KS},fI N G x ⟨m+1,st,ls⟩=R->T o (EU B t G i f s ts R)->T (o.bind λy=>J (y.1,y.2)) Q:=λ{o R} e X=>aF X λr a0=>n _ (by rw[e];exact a0);have g:(KS.mk (m+1) st ls).stack.length<=1048576:=by show st.length<=_;omega
 refine⟨g2,λo=>c (Lx o) (aaF p b q a u),λo=>c (by simp[fI,o]) (aaG b a g),λo=>c (by simp[fI,o]) (aaH b a g),λo=>c (by simp[fI,o]) (aaI b a g),λo=>c (by simp[fI,o]) (aaJ b a g),λo=>c (by simp[fI,o]) (aaL b a g),λo=>c (by simp[fI,o]) (aaK b a g),λo=>c (Ly o) (aaM b a g u (g7 o) (by show ls.length<=_;omega) λl D=>?_),λo=>?_,λo=>?_,λo=>?_,λo=>?_,λo=>?_,λo=>?_,λo=>?_,λo=>?_⟩
 .obtain ⟨_,a2,a3,_⟩:=g10 l D;exact⟨g9 M l D,a2,a3⟩
 .exact n _ (by rw[Lz o];exact ⟨rfl,cd,a.bad⟩)
 .obtain ⟨s0,v,rfl⟩:=g5 M;rw[ey]at d;exact c (Cp o.1 o.2) (aaS hN p b q K A a M o.1 o.2)
 .obtain ⟨s0,v,rfl⟩:=g5 M;rw[ey]at d;exact c (xE o.1 o.2) (aaT hN b A a M (kL j) o.1 o.2)
 .obtain ⟨s0,v,w,rfl⟩:=g6 o;rw[ey,ey]at d;exact c (Cq o.1 o.2) (aaN b a M (kL (iQ j)) (kL j))
 .by_cases e:x.op=34
  .exact c (hR o.1 o.2) (Yy b a e)
  .obtain ⟨s0,v,rfl⟩:=g5 M;rw[ey]at d;exact c (hR o.1 o.2) (aaO b a M e)
 .obtain ⟨s0,v,rfl⟩:=g5 M;rw[ey]at d;exact c (xF o.1 o.2) (aaP b a M M)
 .obtain ⟨jD,pl,rfl⟩:=g8 M;obtain⟨E,a2,a3,a4,H⟩:=g10 pl aE;rw[ey]at z;exact c (xG o) (aaQ p b q a M M E a2 a3)
 .obtain ⟨jD,pl,rfl⟩:=g8 M;obtain⟨s0,v,rfl⟩:=g5 M;obtain⟨E,a2,a3,a4,H⟩:=g10 pl aE;obtain⟨y,b0⟩:=S o;rw[ey]at d z;exact c (xH o) (aaR b a M M (kL j).int H (g9 M pl aE) a2 a3 a4 u b0)
theorem afI(D:pq G.c P)(x1:Z4 N B t G)(l0:Ds G)(d:Cn G.c P k)(X:0<=s)(I:s<=f)(d2:f<=300000)(a0:xZ B t G i h f s k ts)(b0:ts.length=G.c.length)
  (K:∀(j:Nat)(y:Int),ts[j]?=O y->0<=y/\y<=4611686018427387904-mu G.c f s k) (y1:0<=mu G.c f s k/\mu G.c f s k<1073741824):
  T (Wn N (O i) h) λr=>∃n R,we N G n f s (k,ts)=O R/\WU B t G P i f R r:=by
 unfold Wn;refine az (λr=>∃n R,we N G n f s (k,ts)=O R/\WU B t G P i f R (0,r.2)) (λJ A1=>?_) λr v=>ag v;refine Ja (λm r=>∃s' k' L,(∀n R,we N G n f s' (k',L)=O R->∃g,we N G g f s (k,ts)=O R)/\Cn G.c P k'/\0<=s'/\s'<=f/\xZ B t G i r.2 f s' k' L/\L.length=G.c.length/\(∀(j:Nat)(y:Int),L[j]?=O y->0<=y/\y<=4611686018427387904-mu G.c f s' k')/\0<=mu G.c f s' k'/\(mu G.c f s' k').toNat=m) ?_ (m:=(mu G.c f s k).toNat) ⟨s,k,ts,λn R h=>⟨n,h⟩,d,X,I,a0,b0,K,y1.1,rfl⟩ M;rintro rec m ⟨u,h⟩ ⟨s,k,ts,Q,d,X,I,a0,b0,K,f2,rfl⟩ B1;obtain⟨e,he,a⟩:=a0;obtain⟨q,m0,p0⟩:=a.fA;have C1:=d.at0;dsimp only at he;simp only[aM,he,a.eB,a.c];apply a7<;>intro c0
 .refine aH C1 c0 λx _ d0=>?_;have g2:=xK D d I;have q0:k.eB.toNat<ts.length:=M;obtain⟨y,e0⟩:∃y,ts[k.eB.toNat]?=O y:=⟨_,bS q0⟩
  obtain⟨i2,j2⟩:=K _ y e0;have l2:=D.oo;have D1:cR (decide (0<=k.eB)&&decide (k.eB<(ts.length:Int)))=O ():=fX cM;simp only[m0,aM,p0,D1,e0];rw[fG (x:=y+1) M M];refine fc λE1 r0=>?_;have s0:E1.fj[i]?=O e:=by rw[r0];exact he
  simp only[s0,aM,a.eB];rw[fG (x:=k.eB+1) M M];refine fc λG1 t0=>?_;have H1:xZ B t G i G1 f s (k.go (k.eB+1)) (ts.set k.eB.toNat (y+1)):=by
   refine⟨{e with eB:=k.eB+1},?_,?_⟩
   .rw[t0];have:=(aY.1 s0).1;simp[this]
   .rw[t0,r0];refine⟨a.t,a.m,a.c,a.jt,a.self,a.bT,a.eC,rfl,a.stack,a.loops,⟨q,by rw[Uh];exact m0,?_⟩,B.cK a.dU rfl rfl rfl rfl rfl rfl rfl rfl rfl⟩;show bz (h.sg.set q _) q=_;exact xI p0
  have I1:∀n R,we N G (n+1) f s (k,ts)=R->R=bif I9 G (k,ts)then O (.ok s (k,ts))else match xJ N G (k,ts)with
   |.gd e=>O (.gd e)|.ok c k'=>bif decide (f-s<c)then O (.gd 100)else we N G n f (s+c) k':=λn R h=>by subst h;show runK (I9 G) (xJ N G) (n+1) f s (k,ts)=_;unfold runK;cases xJ N G (k,ts)<;>rfl
  have J1:I9 G (k,ts)=F:=kd dY;have K1:xJ N G (k,ts)=match fI N G x (k.go (k.eB+1))with
   |.gd e=>.gd e|.ok c k'=>.ok c (k',ts.set k.eB.toNat (y+1)):=by
   unfold xJ;simp only[d0,JF e0]
  have f0:∀n,we N G (n+1) f s (k,ts)=match fI N G x (k.go (k.eB+1))with
   |.gd e=>O (.gd e)|.ok c k'=>bif decide (f-s<c)then O (.gd 100)else we N G n f (s+c) (k',ts.set k.eB.toNat (y+1)):=λn=>by
   rw[I1 n _ rfl,J1,K1];cases fI N G x (k.go (k.eB+1))<;>rfl
  refine az (λr=>EU B t G i f s (ts.set k.eB.toNat (y+1)) (fI N G x (k.go (k.eB+1))) r) (λm2 L1=>?_) λr v=>?_
  .obtain ⟨p2,o1,o2,o3,N1,P1,Q1,R1,S1,T1,w,A,l,C,S,U1,X1⟩:=Vt hN D x1 l0 d d0 X I M H1 L1;refine ao (λo=>by have:=eD o;omega) λu0=>?_;refine ao (λo=>o1 (eD o)) λv0=>ao (λo=>o2 (eD o)) λw0=>ao (λo=>o3 (eD o)) λx0=>ao (λo=>N1 (eD o)) λy0=>ao (λo=>P1 (eD o)) λA0=>ao (λo=>Q1 (eD o)) λB0=>ao (λo=>R1 (eD o)) λC0=>ao (λo=>S1 (eD o)) λD0=>ao (λo=>T1 (eD o)) λE0=>ao (λo=>w (by have:=eD o;omega)) λG0=>ao (λo=>w (by have:=eD o;omega)) λH0=>ao (λo=>w (by have:=eD o;omega)) λI0=>ao (λo=>w (by have:=eD o;omega)) λJ0=>ao (λo=>w (by have:=eD o;omega)) λK0=>ao (λo=>w (by have:=eD o;omega)) λL0=>ao (λo=>A (by have:=eD o;omega)) λN0=>ao (λo=>A (by have:=eD o;omega)) λP0=>ao (λo=>A (by have:=eD o;omega)) λQ0=>ao (λo=>A (by have:=eD o;omega)) λR0=>ao (λo=>A (by have:=eD o;omega)) λS0=>ao (λo=>A (by have:=eD o;omega)) λT0=>ao (λo=>l (by have:=eD o;omega)) λU0=>ao (λo=>l (by have:=eD o;omega)) λX0=>ao (λo=>l (by have:=eD o;omega)) λa1=>ao (λo=>l (by have:=eD o;omega)) λb1=>ao (λo=>l (by have:=eD o;omega)) λc1=>ao (λo=>l (by have:=eD o;omega)) λd1=>ao (λo=>l (by have:=eD o;omega)) λf1=>ao (λo=>C (by have:=eD o;omega)) λg1=>ao (λo=>C (by have:=eD o;omega)) λi1=>ao (λo=>C (by have:=eD o;omega)) λj1=>ao (λo=>C (by have:=eD o;omega)) λk1=>ao (λo=>C (by have:=eD o;omega)) λl1=>ao (λo=>C (by have:=eD o;omega)) λm1=>ao (λo=>S (by have:=eD o;omega)) λp1=>ao (λo=>S (by have:=eD o;omega)) λq1=>ao (λo=>S (by have:=eD o;omega)) λs1=>ao (λo=>S (by have:=eD o;omega)) λu1=>ao (λo=>U1 (eD o)) λv1=>ao (λo=>X1 (eD o)) λw1=>?_;replace u0:=eE u0;replace v0:=eE v0;replace w0:=eE w0;replace x0:=eE x0;replace y0:=eE y0;replace A0:=eE A0;replace B0:=eE B0;replace C0:=eE C0;replace D0:=eE D0;replace E0:=eE E0;replace G0:=eE G0;replace H0:=eE H0;replace I0:=eE I0;replace J0:=eE J0;replace K0:=eE K0;replace L0:=eE L0;replace N0:=eE N0;replace P0:=eE P0;replace Q0:=eE Q0;replace R0:=eE R0;replace S0:=eE S0;replace T0:=eE T0;replace U0:=eE U0;replace X0:=eE X0;replace a1:=eE a1;replace b1:=eE b1;replace c1:=eE c1;replace d1:=eE d1;replace f1:=eE f1;replace g1:=eE g1;replace i1:=eE i1;replace j1:=eE j1;replace k1:=eE k1;replace l1:=eE l1;replace m1:=eE m1;replace p1:=eE p1;replace q1:=eE q1;replace s1:=eE s1;replace u1:=eE u1;replace v1:=eE v1;replace w1:=eE w1;omega
  .obtain ⟨p,h'⟩:=r;dsimp only;cases hi:fI N G x (k.go (k.eB+1))with
   |gd e'=>rw[hi]at v;obtain⟨U,g0,b⟩:=v;dsimp only at U b;obtain⟨g,i0⟩:=Q 1 (.gd e') (by rw[f0 0,hi]);refine ba (λ_=>ag ⟨g,_,i0,U,g0,b⟩) λh0=>M|ok c a2=>
    rw[hi]at v;obtain⟨U,g0⟩:=v;by_cases j0:f-s<c
    .obtain ⟨b,E⟩:=U j0;dsimp only at b E;obtain⟨g,i0⟩:=Q 1 (.gd 100) (by rw[f0 0,hi];simp only[jg j0];rfl);refine ba (λ_=>ag ⟨g,_,i0,b,cd,E⟩) λh0=>M
    .obtain ⟨b,E⟩:=g0 M;dsimp only at b E;obtain⟨t1,t2,t3,q2⟩:=EA (f:=f) (s:=s) D l0 d d0 M hi;have b2:=xK D t1 (s:=s+c) (f:=f) M;refine ba (λh0=>(h0 b).elim) λ_=>B1 _ _ ⟨s+c,a2,_,λn R c2=>?_,t1,M,M,E,by rw[Uh];exact b0,λj z H=>?_,b2,rfl⟩ M
     .exact Q (n+1) R (by rw[f0 n,hi];simp only[kd j0];exact c2)
     .rw[qp]at H;by_cases e:k.eB.toNat=j
      .rw[aj e,aj q0]at H;cases H;omega
      .rw[ai e]at H;have:=K j z H;omega
 .refine A1 _ ?_;obtain⟨g,h'⟩:=Q 1 (.ok s (k,ts)) (by unfold we runK;rw[show I9 G (k,ts)=W from jg c0];rfl);exact⟨g,_,h',rfl,⟨e,he,a⟩,d,c0⟩
end
structure Ck(h:Hp)(ci q:Nat)(c:List c8)(P:List db):Prop where
 k:h.oN[ci]?=O (Zh.mk c (O (q,P.length)))
 p:bz h.v8 q=O P
section
variable{N:Nat}(hN:1073741824<=N)
include hN
theorem aaU(a b:Z bk)(t:a.length<=1048576):T (Vc N (a,b)) λr=>r=decide (a=b):=by
 unfold Vc;refine ba (λh=>ag ?_) λh=>?_
 .have:a≠b:=λe=>h (by rw[e]);simp[this]
 have v:a.length=b.length:=M;refine az (λ_=>a=b) (λJ j=>?_) λs k=>ag (by simp[k]);refine aP (λs=>0<=s.1/\s.1<=a.length/\a.take s.1.toNat=b.take s.1.toNat) (λs=>(a.length-s.1).toNat) ⟨aE,aE,aE⟩ dY ?_;rintro rec ⟨p,u⟩ ⟨d,l,c⟩ m;dsimp only at d l c;refine a7 (λg=>?_) λg=>j _ ?_
 .refine aH d g λx _ i=>aH d M λy _ f=>?_;have n:a.take (p.toNat+1)=a.take p.toNat++[x]:=by obtain⟨hi,rfl⟩:=aY.1 i;exact(ah hi).symm
  have o:b.take (p.toNat+1)=b.take p.toNat++[y]:=by obtain⟨hi,rfl⟩:=aY.1 f;exact(ah hi).symm
  refine bZ (λe=>ag ?_) λe=>m _ ⟨?_,?_,?_⟩ ?_
  .have:a≠b:=λq=>by subst q;rw[i]at f;cases f;simp at e
   simp[this]
  .dsimp only;rw[fG M M];omega
  .dsimp only;rw[fG M M];omega
  .dsimp only;rw[fG M M,(M:(p+1).toNat=p.toNat+1),n,o,c];obtain⟨w,z⟩:=x;obtain⟨A,B⟩:=y;simp at e;rw[e.1,e.2]
  .dsimp only;rw[fG M M];omega
 .rw[dh M,dh M]at c;exact c
def EE(h:Hp)(ci q:Nat)(c:Z c8)(o:V (Z db))(r:tl×Hp):Prop:=
 r.2={h with v8:=r.2.v8}/\match o with
  |none=>r.1=F|some a=>r.1=W/\Ck r.2 ci q c a
theorem EF{h:Hp}{q:Nat}(d:Ck h ci q c P)(k:∀(j:Nat)(h:Int)(L:Z bk),P[j]?=O ⟨W,h,L⟩->L.length<=1048576){b:Int}(h0:0<=b)(o:b<P.length)(g:Int)(L:Z bk):
  T (hE N (O ci,b,g,L) h) (EE h ci q c (fB P b.toNat g L)):=by
 obtain⟨p,i⟩:∃p,P[b.toNat]?=O p:=⟨_,bS M⟩
 have l:cR (decide (0<=b)&&decide (b<(P.length:Int)))=O ():=fX cM;unfold hE fB;simp only[aM,d.k,l,d.p,i];obtain⟨m,s,LL⟩:=p;cases m with
 |true=>
  simp only[bf,ca];apply aO<;>intro e
  .refine aF (aaU hN LL L (k _ _ _ i)) λr n=>?_;rw[n];refine ag ⟨rfl,?_⟩;by_cases f:LL=L
   .rw[aj ⟨e,f⟩];exact ⟨by simp[f],d⟩
   .rw[ai (λa=>f a.2)];simp[f]
  .rw[ai (λa=>e a.1)];exact ag ⟨rfl,rfl⟩
 |false=>simp only[bq,bw,iA,cG];exact ag ⟨rfl,rfl,by rw[Uh];exact d.k,xI d.p⟩
omit hN in
theorem aaV(o:Int):T (Vd N o) λr=>r=ud o:=by
 unfold Vd ud;refine ht (λh=>ag ?_) λh=>aO (λa=>ag ?_) λa=>aO (λb=>ag ?_) λb=>ht (λc=>ht (λd=>ag ?_) λd=>ag ?_) λc=>ag ?_
 .rw[aj M]
 .rw[aj M]
 .rw[aj M]
 .rw[ai M,aj M]
 .rw[ai M,ai M]
 .rw[ai M,ai M]
omit hN in
theorem Wo(o:Int):T (RR N o) λr=>(r==112)=(kM o||o==40):=by
 have a:∀r:Int,r≠112->o≠30->o≠31->o≠33->o≠34->o≠39->o≠40->T (O r) λr=>(r==112)=(kM o||o==40):=λr c d f g h i j=>ag (by rw[ic.2 c];unfold kM;rw[ic.2 d,ic.2 f,ic.2 g,ic.2 h,ic.2 i,ic.2 j];rfl);have b:T (bif o==14 then O 110 else bif o==15 then O 110 else bif o==30 then O 112 else bif o==31 then O 112 else bif o==33 then O 112 else bif o==34 then O 112 else bif o==39 then O 112 else bif o==40 then O 112 else O (45:Int)) λr=>(r==112)=(kM o||o==40):=by
  refine aO (λe=>a _ cd M M M M M M) λ_=>aO (λe=>a _ cd M M M M M M) λ_=>
   aO (λe=>ag (by subst e;rfl)) λ_=>aO (λe=>ag (by subst e;rfl)) λ_=>aO (λe=>ag (by subst e;rfl)) λ_=>aO (λe=>ag (by subst e;rfl)) λ_=>aO (λe=>ag (by subst e;rfl)) λ_=>aO (λe=>ag (by subst e;rfl)) λ_=>
   a _ cd M M M M M M
 unfold RR;refine aO (λe=>a _ cd M M M M M M) λ_=>aO (λe=>a _ cd M M M M M M) λ_=>aO (λe=>a _ cd M M M M M M) λ_=>aO (λe=>a _ cd M M M M M M) λ_=>ht (λ_=>ht (λ_=>a _ cd M M M M M M) λ_=>b) λ_=>b
theorem aaW(L:Z bk)(h:L.length<=1048576):T (Ll N L) λr=>r=L:=pn M M
omit hN in
theorem Vu{k:Nat}{h:Int}(a:ue c P k)(d:P[i]?=O ⟨W,h,L⟩):dK L<=1024:=by
 have e:=a.jw i h L d;unfold dK;split
 .omega
 .rename_i l b;rw[PA]at b;obtain⟨_,_,_,q,_⟩:=e.loops _ _ b;have f:=(a.jw _ _ _ q).h1;have:=(aY.1 q).1;have:=a.len;have:=a.oo;omega
set_option maxHeartbeats 4000000 in
theorem aaX{h:Hp}{q:Nat}{x:c8}{d:Int}(C:Ck h ci q c P)(H:ue c P i)(t0:c[i]?=O x)(H0:hZ x)(b0:P[i]?=O ⟨W,d,L⟩):
  T (Ve N (O ci,(i:Int),x) h) (EE h ci q c (gQ c P i x d L)):=by
 have Q:=H.jw i d L b0;have I0:=Np Q;have J0:=Vu H b0;have K0:=Q.h0;have L0:=Q.h1;have N0:=Q.len;have P0:=(aY.1 t0).1;have Q0:=H.oo;have R0:=H.len;have u0:cR (decide (0<=(i:Int))&&decide ((i:Int)<(P.length:Int)))=O ():=fX cM;have v0:IntKind.i64.wrap ((i:Int)+1)=((i+1:Nat):Int):=rL M;have w0:IntKind.i64.wrap (d+1)=d+1:=fG M M;have x0:IntKind.i64.wrap (d-1)=d-1:=fG M M;have I:∀(j:Nat)(h:Int)(L:Z bk),P[j]?=O ⟨W,h,L⟩->L.length<=1048576:=λj h L f=>by have:=(H.jw j h L f).len;have:=(aY.1 f).1;omega
 unfold Ve;simp only[aM,C.k,u0,C.p,dV,b0,v0,w0,x0];refine az (λs=>s.1.1=dK L/\s.1.2.2=mg L) (λJ l=>a7 (λR=>?_) λR=>?_) λs n=>?_
 .rw[fG M M];refine aH M M λz _ S=>l _ ?_;have e:L.getLast?=O z:=by rw[PA,<-S];congr 1;omega
  unfold dK mg;rw[e];exact⟨rfl,rfl⟩
 .have:L=[]:=nQ M;refine l _ ?_;subst this;exact⟨rfl,rfl⟩
 obtain⟨⟨b,b2,S0⟩,u⟩:=s;obtain⟨R,g0⟩:=n;dsimp only at R g0;subst R g0;dsimp only;refine aF (aaV x.op) λy c0=>?_;subst c0;rw[fG (x:=d-dK L) M M];refine a7 (λi0=>ag ⟨rfl,?_⟩) λi0=>?_
 .unfold gQ;rw[aj i0]
 refine az (λs=>s.1=decide (kM x.op=W/\(x.arg<=i∨(c.length:Int)<x.arg))) (λJ l=>bZ (λXQ=>?_) λXQ=>l _ ?_) λs n=>?_
 .refine aF (Wo x.op) λr v=>ao (λe=>ht (λj0=>l _ ?_) λj0=>l _ ?_) λe=>l _ ?_
  .rw[v,XQ,Hd]at e;simp[e,j0]
  .rw[v,XQ,Hd]at e;have:¬x.arg<=i:=M;simp[e,this]
  .rw[v,XQ,Hd]at e;simp[e]
 .have:x.op=40:=by simpa using XQ
  simp[kM,this]
 obtain⟨p,u⟩:=s;dsimp only at n;dsimp only;refine ao (λe=>ag ⟨rfl,?_⟩) λe=>?_
 .rw[e]at n;unfold gQ;rw[ai M,aj (di n.symm)]
 rw[e]at n;have f:=qY n.symm;have k:¬d-dK L<ud x.op:=M;have K:kM x.op=W->(i:Int)<x.arg/\x.arg<=c.length:=λa=>⟨x6.1 λb=>f ⟨a,.inl b⟩,iB.1 λb=>f ⟨a,.inr b⟩⟩
 clear n e;have one:∀{A h':Int}{U:Z bk},gQ c P i x d L=fB P A.toNat h' U->0<=A->A<=c.length->T ((hE N (O ci,A,h',U) h).bind λy=>O (y.1,y.2)) (EE h ci q c (gQ c P i x d L)):=λe h0 h1=>by rw[e];exact aF (EF hN C I h0 M _ _) λr v=>ag v
 have fO:∀{A h1 D:Int}{d0:Z bk},(d0.length<=1048576)->(gQ c P i x d L=(fB P A.toNat h1 d0).bind λP=>fB P (i+1) D L)->0<=A->A<=c.length->
   T ((hE N (O ci,A,h1,d0) h).bind λy=>aS (λ((p,h):tl×Hp)=>O (p,h)) λJ=>bif y.1 then(hE N (O ci,((i+1:Nat):Int),D,L) y.2).bind λz=>J (z.1,z.2)else J (F,y.2)) (EE h ci q c (gQ c P i x d L)):=λy0 e h0 h1=>by
  rw[e];refine aF (EF hN C I h0 M _ _) λr ⟨l0,E⟩=>?_;cases e0:fB P _ _ _ with
  |none=>rw[e0]at E;simp only[aS,E,bq];exact ag ⟨l0,rfl⟩|some T0=>
   rw[e0]at E;obtain⟨E,A0⟩:=E;have m0:=oq e0;simp only[aS,E,bf,aM];have U0:=m0.ext.len;refine aF (EF hN A0 (λj h' U f=>?_) M M _ _) λw ⟨B0,n0⟩=>ag ⟨?_,?_⟩
   .rcases m0.new j h' U f with g|⟨_,_,rfl⟩
    .exact I _ _ _ g
    .exact y0
   .dsimp only;rw[B0,l0]
   .rw[dV]at n0;exact n0
 have m:(0:Int)<=((i+1:Nat):Int):=M4 _;have t:((i+1:Nat):Int)<=(c.length:Int):=M;have X0:∀{o:V (Z db)},(gQ c P i x d L=o)->gQ c P i x d L=o:=λh=>h;refine aO (λo=>one (by unfold gQ;rw[ai k,ai f];simp[o]) m t) λa1=>aO (λo=>one (by unfold gQ;rw[ai k,ai f];simp[o]) m t) λb1=>aO (λo=>one (by unfold gQ;rw[ai k,ai f];simp[o]) m t) λc1=>aO (λo=>?_) λd1=>
  aO (λo=>one (by unfold gQ;rw[ai k,ai f];simp[o]) m t) λf1=>aO (λo=>one (by unfold gQ;rw[ai k,ai f];simp[o]) m t) λg1=>aO (λo=>one (by unfold gQ;rw[ai k,ai f];simp[o]) m t) λi1=>aO (λo=>one (by unfold gQ;rw[ai k,ai f];simp[o]) m t) λk1=>
  aO (λo=>one (by unfold gQ;rw[ai k,ai f];simp[o]) m t) λl1=>aO (λo=>one (by unfold gQ;rw[ai k,ai f];simp[o]) m t) λn1=>aO (λo=>one (by unfold gQ;rw[ai k,ai f];simp[o]) m t) λo1=>aO (λo=>one (by unfold gQ;rw[ai k,ai f];simp[o]) m t) λp1=>
  aO (λo=>one (by unfold gQ;rw[ai k,ai f];simp[o]) m t) λq1=>aO (λo=>one (by unfold gQ;rw[ai k,ai f];simp[o]) m t) λs1=>aO (λo=>one (by unfold gQ;rw[ai k,ai f];simp[o]) m t) λt1=>aO (λo=>one (by unfold gQ;rw[ai k,ai f];simp[o]) m t) λu1=>
  aO (λo=>one (by unfold gQ;rw[ai k,ai f];simp[o]) m t) λv1=>aO (λo=>one (by unfold gQ;rw[ai k,ai f];simp[o]) m t) λx1=>aO (λo=>?_) λy1=>aO (λo=>?_) λA1=>aO (λo=>?_) λB1=>aO (λo=>?_) λC1=>?_
 .unfold gQ;rw[ai k,ai f,ai M,aj o];refine az (λs=>EE h ci q c (if x.arg<L.length then fB P (i+1) (d+1) L else Y) s) (λJ l=>a7 (λo0=>?_) λo0=>l _ ?_) λs n=>ag n
  .rw[aj o0]at l⊢;refine aF (EF hN C I m M _ _) λr v=>l _ ?_;rw[dV]at v;exact v
  .rw[ai M];exact⟨rfl,rfl⟩
 .obtain ⟨X,B⟩:=K (by simp[kM,o]);exact fO M (by unfold gQ;rw[ai k,ai f];simp[o]) M B
 .obtain ⟨X,B⟩:=K (by simp[kM,o]);exact fO M (by unfold gQ;rw[ai k,ai f];simp[o]) M B
 .obtain ⟨X,B⟩:=K (by simp[kM,o]);exact fO M (by unfold gQ;rw[ai k,ai f];simp[o]) M B
 .obtain ⟨X,B⟩:=K (by simp[kM,o]);exact one (by unfold gQ;rw[ai k,ai f];simp[o]) M B
 have a0:35<=x.op/\x.op<=38->T (aS (λ((C0,_):tl×xW)=>bif C0 then O (F,h)else(Ll N L).bind λp0=>(cR (cE 16 (p0.length+[bk.mk (d-1) ((i+1:Nat):Int)].length) 140737488355328)).bind λ_=>
   (hE N (O ci,((i+1:Nat):Int),d-1,p0++[bk.mk (d-1) ((i+1:Nat):Int)]) h).bind λq0=>O (q0.1,q0.2)) λr0=>bif ((i+1:Nat):Int)==(c.length:Int)then r0 (W,())else(aR c ((i+1:Nat):Int)).bind λD0=>r0 ((!(D0.op==39)),())) (EE h ci q c (gQ c P i x d L)):=λo=>by
  have G:gQ c P i x d L=(c[i+1]?).bind λy=>if y.op=39 then fB P (i+1) (d-1) (L++[⟨d-1,i+1⟩])else Y:=by unfold gQ;rw[ai k,ai f,ai M,ai M,ai M,ai M,ai M,ai M,ai M,aj o]
  rw[G];refine az (λs=>s.1=W/\((c[i+1]?).bind λy=>if y.op=39 then fB P (i+1) (d-1) (L++[⟨d-1,i+1⟩])else Y)=Y∨s.1=F/\((c[i+1]?).bind λy=>if y.op=39 then fB P (i+1) (d-1) (L++[⟨d-1,i+1⟩])else Y)=fB P (i+1) (d-1) (L++[⟨d-1,i+1⟩])) (λJ l=>?_) λs n=>?_
  .refine aO (λe=>l _ (.inl ⟨rfl,?_⟩)) λe=>?_
   .rw[uG M];rfl
   .refine aH m M λz _ S=>l _ ?_;rw[dV]at S;simp only[S,aM];by_cases e2:z.op=39
    .exact .inr ⟨by simp[e2],by rw[aj e2]⟩
    .exact .inl ⟨by simp[e2],by rw[ai e2]⟩
  .obtain ⟨p,u⟩:=s;rcases n with⟨h1,D⟩|⟨h1,D⟩
   .dsimp only at h1;subst h1;rw[D];exact ag ⟨rfl,rfl⟩
   .dsimp only at h1;subst h1;rw[D];refine aF (aaW hN L M) λy c0=>?_;subst c0;refine bY (dG cM cM) (aF (EF hN C I m M _ _) λr v=>ag ?_);rw[dV]at v;exact v
 refine aO (λo=>a0 M) λD1=>aO (λo=>a0 M) λE1=>aO (λo=>a0 M) λG1=>aO (λo=>a0 M) λH1=>aO (λo=>?_) λI1=>aO (λo=>?_) λJ1=>?_
 .obtain ⟨X,B⟩:=K (by simp[kM,o]);have G:gQ c P i x d L=if L=[]∨mg L≠i∨d≠dK L then Y else(fB P x.arg.toNat (dK L+1) L.dropLast).bind λP=>fB P (i+1) (dK L) L:=by unfold gQ;rw[ai k,ai f];simp[o]
  refine az (λs=>s.1=decide (L=[]∨mg L≠i∨d≠dK L)) (λJ l=>aO (λe=>l _ ?_) λe=>ba (λe2=>l _ ?_) λe2=>l _ ?_) λs n=>?_
  .have:L=[]:=nQ M;simp[this]
  .simp[e2]
  .have:L≠[]:=by rintro rfl;simp at e
   by_cases f0:d=dK L<;>simp[this,e2,f0]
  .obtain ⟨p,u⟩:=s;dsimp only at n⊢;refine ao (λe=>ag ⟨rfl,?_⟩) λe=>?_
   .rw[e]at n;rw[G,aj (di n.symm)]
   .rw[e]at n;have s0:=qY n.symm;have E0:L≠[]:=λa=>s0 (.inl a);have K1:0<L.length:=Mb.2 E0;have G0:IntKind.i64.wrap ((L.length:Int)-1)=((L.length-1:Nat):Int):=by rw[fG M M];omega
    rw[G0,fG (x:=dK L+1) M M];refine bY aE ?_;rw[dV,<-List.dropLast_eq_take];exact fO (by rw[PB];omega) (by rw[G,ai s0]) M B
 .have G:gQ c P i x d L=if 0<L.length/\x.arg=mg L/\d=dK L+1 then O P else Y:=by unfold gQ;rw[ai k,ai f];simp[o]
  rw[fG (x:=dK L+1) M M];refine az (λs=>s.1=decide (0<L.length/\x.arg=mg L/\d=dK L+1)) (λJ l=>a7 (λe=>aO (λe2=>l _ ?_) λe2=>l _ ?_) λe=>l _ ?_) λs n=>ag ⟨rfl,?_⟩
  .have:0<L.length:=M;by_cases f0:d=dK L+1<;>simp[this,e2,f0]
  .simp[e2]
  .have:¬0<L.length:=M;simp[this]
  .rw[G,n];by_cases e:0<L.length/\x.arg=mg L/\d=dK L+1
   .rw[aj e];exact ⟨jg e,C⟩
   .rw[ai e];exact kd e
 .refine one ?_ m t;unfold gQ;rw[ai k,ai f,ai M,ai M,ai M,ai M,ai M,ai M,ai M,ai M,ai M,ai M,dV]
end
end Go.Proofs.Mo
