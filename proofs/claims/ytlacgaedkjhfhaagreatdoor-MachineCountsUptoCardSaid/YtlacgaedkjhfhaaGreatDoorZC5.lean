import Derived.Test.YtlacgaedkjhfhaaGreatDoorZC4
set_option linter.all false
open Option renaming some->O,none->Y
open Bool renaming true->W,false->F
namespace Go.X
open Go Go.Ev
variable{f:JC}{args:Array qm}{argTypes:Array JA}{β:Type}{a:Array β}
section
variable{P:qK}{E:cm}{U:cg}{T:dm U.C}{X:gj U}{w0:zI}{I0:aD}{n:Nat}{o:JB}{s:S U.C}{q:St}{α:Type}{out:α}{fz:tl}{kx:rq U->S U.C->V α}{K:S U.C->V α}{esc:Z (Nat×Nat)}
variable(L:cw U T)
def BH{rs:Z RK}{a:V (JA×Ty)}{r:h7 U a (HL U.C (rs.map RK.ty))}{f:rq U->V α}{g:HL U.C (rs.map RK.ty)->V α}(h:sK a r f g=O out):
  (∃y,pc T rs a r=.ret (cL T rs y)/\g y=O out)∨∃b t e,a=O (b,t)/\pc T rs a r=.dO (.mQ b (enc T t e))/\f ⟨b,t,e⟩=O out:=by
 cases a with
 |none=>exact .inl ⟨r,rfl,h⟩|some p=>
  obtain⟨b,t⟩:=p;have d:∃c:Except (bL U.C t) (HL U.C (rs.map RK.ty)),c=r:=⟨r,rfl⟩
  obtain⟨c,i⟩:=d;subst i;cases c with
  |ok y=>exact .inl ⟨y,rfl,h⟩|error e=>exact .inr ⟨b,t,e,rfl,rfl,h⟩
def dE.ZF {K:St->Prop} (h:nq P E w0 I0 n o q K λ_ _=>False):dE P E w0 I0 n o q K:=λa w b c=>h a w b c λx v s' a' w' I' e d=>d.elim
def mV:∀{n:Nat},HK s n=W->∀k,k<n->s.m k=W
 |0,_,k,a=>M|n+1,h,k,a=>by
  simp only[HK,aI]at h;by_cases e:k=n
  .subst e;exact h.1
  .exact mV h.2 k M
def vC{x:qm}{a:Z AV}{q b:St}(h:q.ev x=.val (.fn f a))(c:kX q b):iI b x=O (f,a):=by have:=Bm (c x (.fn f a) (by rw[h];rfl));simp[iI,this]
def BI{x:qm}(d:o.op=.call {callee:=.value x,args:=args,argTypes:=argTypes})(h:eS X s o.op=F):(∀y∈args.toList,lC (s.ev y)=F)/\∀f caps,s.ev x=.fn f caps->∀c∈X.con f,((∀a,c.run≠.st a)/\∀a,c.run≠.rd a)/\c.rs.any RK.eM=F:=by
 simp only[d,eS,x4,uD]at h;refine⟨λy g=>by simpa using h.1 y g,λf caps i c j=>?_⟩;have b:=h.2;rw[i]at b;simp only[uD]at b;have:=b c j;simp only[kS,not_or,LY]at this;refine⟨⟨λa e=>?_,λa e=>?_⟩,this.2⟩
 .rw[e]at this;cases this.1
 .rw[e]at this;cases this.1
include L in
theorem BJ:∀(k:Nat)(t:Ty)(x:bL U.C t),gk U k t=W->(gr U k t).all w6=W->∀c∈(enc T t x).cells,∃v,c=.fl v
 |k,t,x,d,f,c,a=>by
  by_cases b:aV t=W
  .cases t with
   |struct m=>
    cases k with
    |zero=>simp[gk]at d|succ k=>
     simp only[gk,cS]at d;have g:∀(ts:Z Ty)(y:HL U.C ts),(∀t∈ts,gk U k t=W)->(jS (gr U k) ts).all w6=W->∀c∈ka T ts y,∃v,c=.fl v:=by
      intro ts;induction ts with
      |nil=>intro y _ _ c a;simp[ka]at a|cons t ts i=>
       intro y h e c a;simp only[jS,List.all_append,aI]at e;simp only[ka]at a;rcases dR.1 a with a|a
       .exact BJ k t _ (h t aE) e.1 c a
       .exact i _ (λt j=>h t (by simp[j])) e.2 c a
     simp only[enc,AV.cells]at a;rw[L.cells]at a;exact g _ (U.un m x) d f c a
   |_=>simp[aV]at b
  .have b:aV t=F:=by simpa using b
   rw[iX b]at a;simp only[iC]at a;subst a;have:w6 t=W:=by cases t<;>first|(simp[aV]at b;done)|(cases k<;>simpa[gr]using f)
   cases t<;>first|exact ⟨_,rfl⟩|cases this
include L in
theorem BK:∀(rs:Z RK)(y:HL U.C (rs.map RK.ty)),rs.all (Xg U)=W->∀r∈cL T rs y,Fs r
 |[],y,_,r,a=>by simp[cL]at a|.v t::rs,y,h,r,a=>by
  simp only[qQ,aI]at h;simp only[cL,cT]at a;rcases a with rfl|a
  .have:w6 t=W:=h.1;show∃v,_=AV.fl v;cases t<;>first|exact ⟨_,rfl⟩|cases this
  .exact BK rs _ h.2 r a
 |.bU t e::rs,y,h,r,a=>by
  simp only[qQ,aI]at h;simp only[cL,cT]at a;rcases a with rfl|a
  .intro x b c d;obtain⟨z,_,rfl⟩:=dP.1 b;exact BJ L D t z (hO L t) h.1 c d
  .exact BK rs _ h.2 r a
include L in
theorem QK(G:bP P E T X)(Q:(∃k,s.m k=W)->E.dc=F)(a0:aW n o=W){x:qm}(B:o.op=.call {callee:=.value x,args:=args,argTypes:=argTypes}){caps:Z (R U.C)}(c0:s.ev x=.fn f caps)
  {c:b7 U} (d0:c∈X.con f) (h:ru X kx fz s o.dst c caps args.toList K=O out):eo P E T X w0 I0 n fz o s kx K out:=by
 have J0:bW x=W:=bR a0 (by simp[B,Op.operands,Call.operands]);have i0:∀y∈args.toList,bW y=W:=λy K0=>bR a0 (by simp[B,Op.operands,Call.operands];exact .inr (by simpa using K0));have H:=G.con f c d0;have j0:∀q,aX P E T X s q->∃z,q.ev x=.val (.fn f z)/\jB P E T caps z:=λq g=>by have A:=g.ev x J0;rw[c0]at A;exact tP A
 have e0:=λv=>(BI (X:=X) (s:=s) B v)
 have U0:(∃k,s.m k=W)->E.dc=F:=Q;obtain⟨ps,rs,dO,b0⟩:=c;have n0:∀(L0 s2:S U.C)(vs:HL U.C ps)(r:h7 U dO (HL U.C (rs.map RK.ty))),bE s s2->sK dO r (λp=>kx p s2) (λy=>rr s2 o.dst rs y K)=O out->
   (∀q,aX P E T X s q->∃b j,iz P E w0 I0 n q b/\aX P E T X s2 j/\(fz=F->ze s q b)/\(eS X s o.op=F->b=q/\j.a=b.a/\j.u=b.u)/\j.r=b.r/\j.b=b.b/\j.g=b.g/\j.df=b.df/\(∀k i,k<U.nk->s.m k=F->j.a (dI k i)=b.a (dI k i)/\j.u (dI k i)=b.u (dI k i))/\∀(f0:St->Prop)(Zloc:AV->St->Prop),NX (pc T rs dO r) (λN0=>f0 (j.take o.dst N0)) (λy=>Zloc y j)->nq P E w0 I0 n o b f0 Zloc)->eo P E T X w0 I0 n fz o s kx K out:=by
  intro L0 s2 vs r E0 h D;rcases BH (T:=T) h with⟨y,h1,h⟩|⟨P0,t,e,rfl,h1,h⟩
  .obtain ⟨Q0,h,o0,v⟩:=BG (P:=P) (E:=E) (T:=T) H.rs h;refine .one _ h (E0.trans o0) λq g=>?_;obtain⟨b,j,p0,a2,a3,a4,a5,q0,r0,G0,a9,s0⟩:=D q g;obtain⟨t0,b2,m,u0⟩:=v j a2;refine p0.mr (dE.ZF (s0 _ _ ?_));rw[h1];refine⟨t0,λH0=>MP B (a3 H0) (λt v=>by rw[b2 t v,a5]) (λd g0=>by rw[(m.b d g0).1,(m.b d g0).2,q0,r0];exact ⟨rfl,rfl⟩) (λk i C hm=>by rw[m.a,m.u];exact a9 k i C hm) (by rw[m.df,G0]) λl0=>?_⟩;obtain⟨e1,e2,v0⟩:=a4 l0;have x0:=((e0 l0).2 f caps c0 _ d0).2;obtain⟨e4,e5⟩:=u0 x0;exact⟨e1,by rw[e4,q0],by rw[e5,r0],by rw[m.a,e2],by rw[m.u,v0]⟩
  .refine .dO _ _ h E0 λq g=>?_;obtain⟨b,j,p0,a2,a3,a4,a5,q0,r0,G0,a9,s0⟩:=D q g;refine⟨H.dO P0 t rfl,p0.KD (s0 _ _ ?_)⟩;rw[h1];exact⟨a2,rfl⟩
 cases b0 with
 |pure b0=>
  simp only[ru]at h;cases m0:(caps.isEmpty&&(rs.all (Xg U)&&dO.isNone))with
  |true=>
   rw[m0]at h;simp only[bf]at h;simp only[aI,Ma,Option.isNone_iff_eq_none]at m0;obtain⟨R0,S0,T0⟩:=m0;subst R0;subst T0;obtain⟨vs,h,hv⟩:=Ec (P:=P) (E:=E) (T:=T) L G _ _ h i0;obtain⟨r,A,h⟩:=bind_some h;have h:rr s o.dst rs r K=O out:=h;obtain⟨Q0,h,o0,v⟩:=BG (P:=P) (E:=E) (T:=T) H.rs h;refine .one _ h o0 λq g=>?_;obtain⟨z,e1,e2⟩:=j0 q g;have v0:z=[]:=by
    have:=e2.1;cases z with
    |nil=>rfl|cons a l=>simp at this
   subst v0;obtain⟨xs,g1,I⟩:=hv q g;obtain⟨t0,b2,m,u0⟩:=v q g;refine Km B a0 (by simp[iI,e1]) g1 (H.sy vs xs r I A) (BK L rs r S0) ⟨t0,λH0=>MP B (.refl s q) b2 m.b (λk i _ _=>by rw[m.a,m.u];exact ⟨rfl,rfl⟩) m.df λl0=>?_⟩;have x0:=((e0 l0).2 f [] c0 _ d0).2;obtain⟨e4,e5⟩:=u0 x0;exact⟨rfl,e4,e5,m.a,m.u⟩
  |false=>rw[m0]at h;simp only[bq]at h;obtain⟨s',vs,h,hm,g0,D⟩:=ph (P:=P) (E:=E) (T:=T) (w0:=w0) (I0:=I0) (n:=n) L G _ _ _ _ Q h i0;obtain⟨r,A,h⟩:=bind_some h;refine n0 s' s' vs r hm h λq g=>?_;obtain⟨z,e1,e2⟩:=j0 q g;obtain⟨b,xs,g1,I⟩:=D q z g e2;exact⟨b,b,g1.oE,g1.nN,g1.fr,λv=>⟨(g1.still (e0 v).1).1,rfl,rfl⟩,rfl,rfl,rfl,rfl,λ_ _ _ _=>⟨rfl,rfl⟩,λf0 Zloc h0=>tu B a0 (vC e1 g1.jb) g1.CU (H.sy vs _ r I A) h0⟩
 |rd b0=>
  simp only[ru]at h;obtain⟨y0,h⟩:=aA h;obtain⟨C,h⟩:=aA h;simp only[aI,fQ]at C;have J:=mV C.2;obtain⟨s',vs,h,hm,g0,D⟩:=ph (P:=P) (E:=E) (T:=T) (w0:=w0) (I0:=I0) (n:=n) L G _ _ _ _ Q h i0;obtain⟨r,A,h⟩:=bind_some h;refine n0 s' s' vs r hm h λq g=>?_;obtain⟨z,e1,e2⟩:=j0 q g;obtain⟨b,xs,g1,I⟩:=D q z g e2;have A0:eY T bM s'.h b.a b.u:=λk w _ i=>g1.nN.heap k w (by rw[hm.m];exact J k w) i;obtain⟨B0,C0,f1,D0⟩:=H.sy vs _ _ r _ _ I A0 A;refine⟨b,{b with a:=B0,u:=C0},g1.oE,g1.nN.qv (hv:=s'.hv) (a6 _) (λk w N i=>f1 k w rfl i),g1.fr,λv=>?_,rfl,rfl,rfl,rfl,λk i w N=>?_,λf0 Zloc h0=>rh B a0 (Q ⟨0,J 0 C.1⟩) (G.ro y0) (vC e1 g1.jb) g1.CU D0 h0⟩
  .exact absurd rfl (((e0 v).2 f caps c0 _ d0).1.2 b0)
  .rw[J k w]at N;cases N
 |st b0=>
  simp only[ru]at h;obtain⟨y0,h⟩:=aA h;obtain⟨C,h⟩:=aA h;simp only[aI,fQ]at C;have J:=mV C.2;obtain⟨s',vs,h,hm,g0,D⟩:=ph (P:=P) (E:=E) (T:=T) (w0:=w0) (I0:=I0) (n:=n) L G _ _ _ _ Q h i0;obtain⟨r,A,h⟩:=bind_some h;obtain⟨r,h'⟩:=r;refine n0 s' (s'.FB h') vs r (hm.trans (tL _)) h λq g=>?_;obtain⟨z,e1,e2⟩:=j0 q g;obtain⟨b,xs,g1,I⟩:=D q z g e2;have A0:eY T bM s'.h b.a b.u:=λk w _ i=>g1.nN.heap k w (by rw[hm.m];exact J k w) i;obtain⟨B0,C0,f1,D0⟩:=H.sy vs _ _ r h' _ _ I A0 A;refine⟨b,{b with a:=B0,u:=C0},g1.oE,g1.nN.qv (cO _) (λk w N i=>f1 k w rfl i),g1.fr,λv=>?_,rfl,rfl,rfl,rfl,λk i w N=>?_,λf0 Zloc h0=>rh B a0 (Q ⟨0,J 0 C.1⟩) (G.ro y0) (vC e1 g1.jb) g1.CU D0 h0⟩
  .exact absurd rfl (((e0 v).2 f caps c0 _ d0).1.1 b0)
  .rw[J k w]at N;cases N
def BL{X:gj U}{dst:V Nat}{caps:Z (R U.C)}{args:Z qm}:∀{l:Z (b7 U)},AX X kx fz s dst caps args K l=O out->∃c∈l,ru X kx fz s dst c caps args K=O out
 |[],h=>by simp[AX]at h|[c],h=>⟨c,aE,h⟩
 |c::a::l,h=>by
  have h:(bif Mw X s c.ps args then ru X kx fz s dst c caps args K else AX X kx fz s dst caps args K (a::l))=O out:=h;cases b:Mw X s c.ps args with
  |true=>rw[b]at h;exact ⟨c,aE,h⟩|false=>rw[b]at h;obtain⟨d,h1,e⟩:=BL (l:=a::l) h;exact⟨d,s6 _ h1,e⟩
def QL(b:Ty)(y:bL U.C b):∃u:cy,(∀(q:St)(dst:V Nat),q.take dst (jq T b y)=q.put dst u)/\∀bx g tick,bC P E T bx g tick (Qd b y) u:=by
 have r:∀(b:Ty)(y:bL U.C b),∃e:Z AV,jq T b y=e.map .v:=λb y=>by
  induction b with
  |gn t u _ n=>obtain⟨e,h⟩:=n y.2;exact⟨enc T t y.1::e,by simp[jq,h]⟩|unit=>exact ⟨[],rfl⟩|_=>exact ⟨[_],rfl⟩
 have s:∀(e:Z AV)(q:St)(d j:Nat),q.cp d j (e.map .v)=(e.map .val,q):=by
  intro e;induction e with
  |nil=>intro q d j;rfl|cons a l n=>intro q d j;simp only[dy,St.cp,St.gJ,n]
 obtain⟨e,c⟩:=r b y;match e,c with
 |[a],c=>
  refine⟨.val a,λq dst=>by rw[c];cases dst<;>rfl,λbx g tick=>?_⟩;cases b with
  |gn t u=>simp only[jq,dy,qU,Dz]at c;cases u<;>simp[jq]at c;show bC P E T bx g tick (bif eV t&&F then .fK [.val t y.1,.val .unit y.2]else .none) _;rw[Bool.and_false];exact .none _
  |unit=>cases c
  |fn _ _=>exact .none _|qu _ _=>exact .none _
  |jR _ _=>exact .none _|cell _=>exact .none _
  |zb k off=>
   have:enc T (.zb k off) y=a:=by simpa[jq]using c
   subst this;exact bg (t:=.zb k off) rfl
  |Mm f t=>
   have:enc T (.Mm f t) y=a:=by simpa[jq]using c
   subst this;show bC P E T bx g tick (bif eV (.Mm f t)then .val (.Mm f t) y else .none) _;cases i:eV (.Mm f t)with
   |true=>exact bg i|false=>exact .none _
  |int k=>
   have:AV.fl (.int k y)=a:=by simpa[jq,enc]using c
   subst this;exact bg (t:=.int k) rfl
  |bool=>
   have:AV.fl (.bool y)=a:=by simpa[jq,enc]using c
   subst this;exact bg (t:=.bool) rfl
  |str=>
   have:enc T .str y=a:=by simpa[jq]using c
   subst this;exact bg (t:=.str) rfl
  |struct m=>
   have:enc T (.struct m) y=a:=by simpa[jq]using c
   subst this;exact bg (t:=.struct m) rfl
  |ptr m=>
   have:enc T (.ptr m) y=a:=by simpa[jq]using c
   subst this;exact bg (t:=.ptr m) rfl
  |hs m=>
   have:enc T (.hs m) y=a:=by simpa[jq]using c
   subst this;exact bg (t:=.hs m) rfl
  |mp m=>
   have:enc T (.mp m) y=a:=by simpa[jq]using c
   subst this;exact bg (t:=.mp m) rfl
  |aq t=>
   have:enc T (.aq t) y=a:=by simpa[jq]using c
   subst this;show bC P E T bx g tick (bif eV (.aq t)then .val (.aq t) y else .none) _;cases i:eV (.aq t)with
   |true=>exact bg i|false=>exact .none _
  |ref t=>
   have:enc T (.ref t) y=a:=by simpa[jq]using c
   subst this;show bC P E T bx g tick (bif eV (.ref t)then .val (.ref t) y else .none) _;cases i:eV (.ref t)with
   |true=>exact bg i|false=>exact .none _
 |[],c=>
  refine⟨.fK [],λq dst=>by rw[c];cases dst<;>rfl,λbx g tick=>?_⟩;cases b with
  |unit=>exact .none _|_=>simp[jq]at c
 |a::a'::l,c=>
  refine⟨.fK ((a::a'::l).map .val),λq dst=>?_,λbx g tick=>?_⟩
  .rw[c];cases dst with
   |none=>rfl|some d=>show((q.cp d 0 ((a::a'::l).map .v)).2).put (O d) (.fK (q.cp d 0 ((a::a'::l).map .v)).1)=_;rw[s]
  .cases b with
   |gn t u=>
    show bC P E T bx g tick (bif eV t&&eV u then .fK [.val t y.1,.val u y.2]else .none) _;cases i:(eV t&&eV u)with
    |false=>exact .none _|true=>
     simp only[aI]at i;have v:=(FW (T:=T) i.2).2 y.2;simp only[jq,v,dy,Dz,RV.v.injEq]at c;obtain⟨rfl,rfl,o⟩:=c;have o:l=[]:=by
      cases l with
      |nil=>rfl|cons a b=>cases o
     subst o;have p:ee P E T bx g tick [.val t y.1,.val u y.2] [.val (enc T t y.1),.val (enc T u y.2)]:=.cons (bg i.1) (.cons (bg i.2) .nil);exact .fK _ _ p.1 p.2
   |unit=>cases c
   |_=>simp[jq]at c
def Oq{q:cy}{cs:Z AV}(h:bu q=O (.lT f cs)):q=.val (.lT f cs):=by cases q<;>simp[bu]at h;rw[h]
def Ig{bx:Z (Nat×Nat×B U.C)}{g:Nat->Nat}{tick:Nat}{caps:Z (R U.C)}{u:cy}(h:bC P E T bx g tick (.lT f caps) u):∃a,u=.val (.lT f a)/\jB P E T caps a:=by
 cases h with
 |lT _ _ a h1 c=>refine⟨a,rfl,h1,λi r av d e t v hv=>?_⟩;obtain⟨k,b,j⟩:=ns (c i r av d e) hv;simp only[bu,ax]at b;subst b;exact j
include L in
theorem vD(j:bP P E T X):∀(ts:Z Ty)(fs:Z (R U.C))(l:Z qm)(s:S U.C){K:S U.C->HL U.C ts->V α},((∃k,s.m k=W)->E.dc=F)->AY X s ts fs l K=O out->(∀x∈l,bW x=W)->
  ∃s' vs,K s' vs=O out/\bE s s'/\∀q b,aX P E T X s q->jB P E T fs b->∃d xs,Xy P E T X w0 I0 n W s s' l q d xs/\fy P E T ts vs (b++xs)
 |ts,[],l,s,K,e,h,f=>by
  have h:oZ X W s ts l [] K=O out:=by cases ts<;>exact h
  obtain⟨s',vs,h,hm,p,g⟩:=ph (P:=P) (E:=E) (T:=T) (w0:=w0) (I0:=I0) (n:=n) L j _ _ _ _ e h f;refine⟨s',vs,h,hm,λq b i c=>?_⟩;obtain⟨d,xs,g1,m⟩:=g q b i c;have:b=[]:=by
   have:=c.1;cases b with
   |nil=>rfl|cons a l=>simp at this
  subst this;exact⟨d,xs,g1,by simpa using m⟩
 |[],r::fs,l,s,K,e,h,f=>by simp[AY]at h|t::ts,r::fs,l,s,K,e,h,f=>by
  simp only[AY]at h;split at h
  .rename_i v hv;obtain⟨s',vs,h,hm,g⟩:=vD j ts fs l s e h f;refine⟨s',_,h,hm,λq b i c=>?_⟩;cases b with
   |nil=>have:=c.1;simp at this|cons av b=>
    obtain⟨d,xs,h1,o⟩:=g q b i c.tail;refine⟨d,xs,h1,av,b++xs,rfl,?_,?_⟩
    .rw[eJ];exact c.2 0 r av rfl rfl t v hv
    .rw[eK];exact o
  .cases h
include L in
theorem QM(z:bP P E T X)(B:(∃k,s.m k=W)->E.dc=F)(b0:aW n o=W){x:qm}(c0:o.op=.call {callee:=.value x,args:=args,argTypes:=argTypes}){fs:Z (R U.C)}(q0:s.ev x=.lT f fs)
  {c:b7 U} (r0:c∈X.con f) (h:AZ X kx s o.dst c fs args.toList K=O out):eo P E T X w0 I0 n W o s kx K out:=by
 have s0:bW x=W:=bR b0 (by simp[c0,Op.operands,Call.operands]);have d0:∀y∈args.toList,bW y=W:=λy t0=>bR b0 (by simp[c0,Op.operands,Call.operands];exact .inr (by simpa using t0));have C:=z.con f c r0;have e0:∀q,aX P E T X s q->∃g,q.ev x=.val (.lT f g)/\jB P E T fs g:=λq d=>by have m:=d.ev x s0;rw[q0]at m;exact Ig m
 obtain⟨ps,rs,dO,a0⟩:=c;have f0:∀(s2:S U.C)(r:h7 U dO (HL U.C (rs.map RK.ty))),bE s s2->sK dO r (λp=>kx p s2) (λy=>rr s2 o.dst rs y K)=O out->
   (∀q,aX P E T X s q->∃b A,iz P E w0 I0 n q b/\aX P E T X s2 A/\∀(D:St->Prop)(Zloc:AV->St->Prop),NX (pc T rs dO r) (λu0=>D (A.take o.dst u0)) (λy=>Zloc y A)->nq P E w0 I0 n o b D Zloc)->eo P E T X w0 I0 n W o s kx K out:=by
  intro s2 r o0 h v;rcases BH (T:=T) h with⟨y,h1,h⟩|⟨v0,t,e,rfl,h1,h⟩
  .obtain ⟨H0,h,x0,y0⟩:=BG (P:=P) (E:=E) (T:=T) C.rs h;refine .one _ h (o0.trans x0) λq d=>?_;obtain⟨b,A,g0,a2,h0⟩:=v q d;obtain⟨A0,b2,J0,K0⟩:=y0 A a2;refine g0.mr (dE.ZF (h0 _ _ ?_));rw[h1];exact⟨A0,λB0=>by cases B0⟩
  .refine .dO _ _ h o0 λq d=>?_;obtain⟨b,A,g0,a2,h0⟩:=v q d;refine⟨C.dO v0 t rfl,g0.KD (h0 _ _ ?_)⟩;rw[h1];exact⟨a2,rfl⟩
 have i0:∀{q b:St}{g xs:Z AV},q.ev x=.val (.lT f g)->kX q b->cP b args.toList=O xs->Go.Proofs.Enters P f->∀a w I be,aL P E w0 I0 n b a w I be->∃vs:Array Jz,(execOp a.eval o).run P w=.ok (.enter f vs) w/\k8 w I vs.toList (g++xs):=λe1 j C0 D0 a w I be E0=>Od c0 b0 (Oq (j x _ (by rw[e1];rfl))) C0 D0 E0;cases a0 with
 |pure a0=>simp only[AZ]at h;obtain⟨s',vs,h,hm,v⟩:=vD (P:=P) (E:=E) (T:=T) (w0:=w0) (I0:=I0) (n:=n) L z _ _ _ _ B h d0;obtain⟨r,m,h⟩:=bind_some h;refine f0 s' r hm h λq d=>?_;obtain⟨g,e1,G⟩:=e0 q d;obtain⟨b,xs,g1,H⟩:=v q g d G;have p0:=C.sy vs _ r H m;exact⟨b,b,g1.oE,g1.nN,λD Zloc J=>HE (i0 e1 g1.jb g1.CU p0.1) p0 J⟩|rd a0=>
  simp only[AZ]at h;obtain⟨j0,h⟩:=aA h;obtain⟨j,h⟩:=aA h;simp only[aI,fQ]at j;have N:=mV j.2;obtain⟨s',vs,h,hm,v⟩:=vD (P:=P) (E:=E) (T:=T) (w0:=w0) (I0:=I0) (n:=n) L z _ _ _ _ B h d0;obtain⟨r,m,h⟩:=bind_some h;refine f0 s' r hm h λq d=>?_;obtain⟨g,e1,G⟩:=e0 q d;obtain⟨b,xs,g1,H⟩:=v q g d G;have l0:eY T bM s'.h b.a b.u:=λk l _ i=>g1.nN.heap k l (by rw[hm.m];exact N k l) i;obtain⟨m0,n0,f1,Q⟩:=C.sy vs _ _ r _ _ H l0 m;exact⟨b,{b with a:=m0,u:=n0},g1.oE,g1.nN.qv (hv:=s'.hv) (a6 _) (λk l G0 i=>f1 k l rfl i),λD Zloc J=>vj (B ⟨0,N 0 j.1⟩) (z.ro j0) (i0 e1 g1.jb g1.CU Q.1) Q J⟩
 |st a0=>simp only[AZ]at h;obtain⟨j0,h⟩:=aA h;obtain⟨j,h⟩:=aA h;simp only[aI,fQ]at j;have N:=mV j.2;obtain⟨s',vs,h,hm,v⟩:=vD (P:=P) (E:=E) (T:=T) (w0:=w0) (I0:=I0) (n:=n) L z _ _ _ _ B h d0;obtain⟨r,m,h⟩:=bind_some h;obtain⟨r,h'⟩:=r;refine f0 (s'.FB h') r (hm.trans (tL _)) h λq d=>?_;obtain⟨g,e1,G⟩:=e0 q d;obtain⟨b,xs,g1,H⟩:=v q g d G;have l0:eY T bM s'.h b.a b.u:=λk l _ i=>g1.nN.heap k l (by rw[hm.m];exact N k l) i;obtain⟨m0,n0,f1,Q⟩:=C.sy vs _ _ r h' _ _ H l0 m;exact⟨b,{b with a:=m0,u:=n0},g1.oE,g1.nN.qv (cO _) (λk l G0 i=>f1 k l rfl i),λD Zloc J=>vj (B ⟨0,N 0 j.1⟩) (z.ro j0) (i0 e1 g1.jb g1.CU Q.1) Q J⟩
include L in
theorem FY(B:bP P E T X)(J:(∃k,s.m k=W)->E.dc=F)(t:aW n o=W){x:qm}(e:o.op=.call {callee:=.value x,args:=args,argTypes:=argTypes})(h:hS X kx esc fz o s K=O out):eo P E T X w0 I0 n fz o s kx K out:=by
 have S:bW x=W:=bR t (by simp[e,Op.operands,Call.operands]);have i0:∀y∈args.toList,bW y=W:=λy N=>bR t (by simp[e,Op.operands,Call.operands];exact .inr (by simpa using N));unfold hS at h;simp only[e]at h;split at h
 .rename_i f caps l;split at h
  .rename_i j0 fs C;replace h:=aA h;obtain⟨D,h⟩:=h;simp only[aI,Ma]at D;obtain⟨rfl,l0⟩:=D;have U:=B.Kp f j0 fs C;refine .one _ h (bh _ _) λq m=>?_;have d:=m.ev x S;rw[l]at d;have e1:q.ev x=.val (.fn f []):=by
    generalize q.ev x=u at d;cases d with
    |fn _ _ w e1 R=>obtain rfl:w=[]:=nQ (by simpa using e1.symm);rfl
   refine dE.ZF (tu e t (f:=f) (caps:=[]) (xs:=[]) (by unfold iI;rw[e1]) (by rw[l0];rfl) U ?_);have Q:q.take o.dst [.v (.agg (fs.map pb))]=q.put o.dst (.val (.agg (fs.map pb))):=by cases o.dst<;>rfl
   show aX _ _ _ _ _ (q.take o.dst _)/\(fz=F->Fr X s o q (q.take o.dst _));rw[Q];refine⟨m.put o.dst (.agg j0 _ _ aE (λi r av d j=>?_) λi av j=>?_),λC=>.oc (.refl s q) λ_=>rfl⟩
   .simp only[dC,ck]at d j;obtain⟨g,m0,rfl⟩:=d;obtain⟨g',a0,rfl⟩:=j;rw[m0]at a0;cases a0;cases g with
    |none=>exact .const .nilFunc rfl|some g=>exact .fn g [] [] rfl λi r av d j=>by simp at d
   .simp only[dC,ck]at j;obtain⟨g',a0,rfl⟩:=j;cases g'<;>rfl
  .obtain ⟨c,D,h⟩:=BL h;exact QK L B J t e l D h
 .rename_i f first l;cases fz with
  |false=>cases h
  |true=>
   simp only[bf]at h;split at h
   .rename_i c t0 D;exact QM L B J t e l (by rw[D];simp) h
   .cases h
 .rename_i a b φ l;unfold xFn at h;obtain⟨s',v,h,hm,U,z⟩:=BF (P:=P) (E:=E) (T:=T) (w0:=w0) (I0:=I0) (n:=n) L B _ _ _ J h i0;obtain⟨y,N,h⟩:=bind_some h;obtain⟨u,Q,b0⟩:=QL (P:=P) (E:=E) (T:=T) b y;refine .one _ h (hm.trans (bh _ _)) λq m=>?_;have d:=m.ev x S;rw[l]at d;have j:∃f caps,q.ev x=.val (.fn f caps)/\∀x y,φ x=O y->∀w,FK T a x w->nm P E f (w++caps) (.ret (jq T b y)):=by
   generalize q.ev x=u at d;cases d with
   |val _ _ _ av z hv=>obtain ⟨f,caps,rfl,c0⟩:=hv;exact ⟨f,caps,Bm z,c0⟩
  obtain⟨f,caps,e1,R⟩:=j;obtain⟨p,xs,g1,d0⟩:=z q m;refine g1.oE.mr (dE.ZF (tu e t (vC e1 g1.jb) g1.CU (R v y N xs d0) ?_));show aX _ _ _ _ _ (p.take o.dst (jq T b y))/\(fz=F->Fr X s o q (p.take o.dst (jq T b y)));rw[Q];refine⟨g1.nN.put o.dst (b0 _ _ _),λC=>.oc (g1.fr C) λe0=>(g1.still (BI (X:=X) e e0).1).1⟩
 .rename_i a b φ l;obtain⟨n0,h⟩:=aA h;unfold Zv at h;obtain⟨f0,h⟩:=aA h;simp only[aI,fQ]at f0;have g0:=mV f0.2;obtain⟨s',v,h,hm,U,z⟩:=BF (P:=P) (E:=E) (T:=T) (w0:=w0) (I0:=I0) (n:=n) L B _ _ _ J h i0;obtain⟨r,N,h⟩:=bind_some h;obtain⟨y,h'⟩:=r;obtain⟨u,Q,b0⟩:=QL (P:=P) (E:=E) (T:=T) b y;refine .one _ h ((hm.trans (tL _)).trans (bh _ _)) λq m=>?_;have d:=m.ev x S;rw[l]at d;have j:∃f caps,q.ev x=.val (.fn f caps)/\∀x h y h',φ x h=O (y,h')->∀w,FK T a x w->∀A Vloc,eY T bM h A Vloc->∃G H,eY T bM h' G H/\np P E f (w++caps) A Vloc (.ret (jq T b y)) G H:=by
   generalize q.ev x=u at d;cases d with
   |val _ _ _ av z hv=>obtain ⟨f,caps,rfl,c0⟩:=hv;exact ⟨f,caps,Bm z,c0⟩
  obtain⟨f,caps,e1,R⟩:=j;obtain⟨p,xs,g1,d0⟩:=z q m;have o0:eY T bM s'.h p.a p.u:=λk I _ i=>g1.nN.heap k I (by rw[hm.m];exact g0 k I) i;obtain⟨G,H,f1,p0⟩:=R v _ y h' N xs d0 _ _ o0;refine g1.oE.mr (dE.ZF (rh e t (J ⟨0,g0 0 f0.1⟩) (B.ro n0) (vC e1 g1.jb) g1.CU p0 ?_));show aX _ _ _ _ _ (St.take {p with a:=G,u:=H} o.dst (jq T b y))/\(fz=F->Fr X s o q (St.take {p with a:=G,u:=H} o.dst (jq T b y)));rw[Q];have q0:aX P E T X (s'.FB h') {p with a:=G,u:=H}:=g1.nN.qv (cO _) λk I h0 i=>f1 k I rfl i;refine⟨q0.put o.dst (b0 _ _ _),λC=>.oc ?_ λe0=>?_⟩
  .obtain ⟨r0,a2,a3,a4,a5,s0⟩:=g1.fr C;exact⟨r0,a2,a3,(λk i I h0=>by rw[g0 k I]at h0;cases h0),a5,s0⟩
  .simp[e,eS,l]at e0
 .cases h
def ZG{x:β}(h:a.toList=[x]):a=#[x]:=by cases a;simp at h;rw[h]
def TZ{x y:β}(h:a.toList=[x,y]):a=#[x,y]:=by cases a;simp at h;rw[h]
include L in
theorem FZ(j:bP P E T X)(v:(∃k,s.m k=W)->E.dc=F)(g:aW n o=W)(h:hS X kx esc fz o s K=O out):eo P E T X w0 I0 n fz o s kx K out:=by
 have h0:=h;cases d:o.op with
 |move x=>unfold hS at h;simp only[d]at h;exact TQ g d h|assign x=>exact Oo g d h|pick c a b=>exact TR j g d h
 |alloc e=>
  cases w:ox esc o.dst with
  |none=>exact Qy L j g d w h|some k=>exact Ol L j v d w h
 |box e x=>
  cases w:ox esc o.dst with
  |none=>exact Xu L j g d w h|some k=>exact TX L j v g d w h
 |build e G=>exact Qz L j v g d h|buildSlice e len G=>exact Di L j (λe t q=>(j.ty e t q).few) g d h
 |load e x=>exact TS L j g d h|store e p x=>exact QF L j v g d h
 |nilCheck x=>exact H7 g d h|binOp bo e x y e'=>exact Qv L j g d h
 |unOp R e x=>exact TU j g d h|convert e e' x=>exact KG L j g d h
 |makeInterface e x=>exact xe j (λe t q=>(j.ty e t q).Xr) g d h|makeFunc f first caps=>
  cases f with
  |func f=>exact Ic L g d h|_=>unfold hS at h;simp only[d]at h;cases h
 |makeMap e r=>
  cases r with
  |none=>exact KH L j v d h|some r=>unfold hS at h;simp only[d]at h;cases h
 |makeSlice e m D=>exact FU L j g d h|slice e x S hi mx=>exact Qu L j g d (λH d' t l r I J N q h=>by subst H;exact Xw j g d I J N q h) h
 |fieldAddr e x f=>exact FQ j g d h|field e x f=>exact Qs L j g d h
 |indexAddr e x y=>exact FR L j g d h|index e x y=>exact Qt L j g d h
 |lookup e x i U=>exact Om L j g d h|mapUpdate e x y z=>
  unfold hS at h;simp only[d]at h;split at h
  .rename_i D q B;obtain⟨C,h⟩:=aA h;exact Bw L j C v g (.inl d) B q h
  .cases h
 |insert e x y z=>
  unfold hS at h;simp only[d]at h;split at h
  .rename_i D q B;obtain⟨C,h⟩:=aA h;exact Bw L j C v g (.inr d) B q h
  .cases h
 |extract x k=>exact KE g d h|panic x=>exact QB j g d h
 |call c=>
  obtain⟨Q,args,argTypes⟩:=c;cases Q with
  |value x=>exact FY L j v g d h|builtin b=>
   unfold hS at h;simp only[d]at h;split at h
   .rename_i x a0 A q;rw[ZG A,ZG q]at d;exact Xt j g d h0
   .rename_i x y e u A q;rw[TZ A,TZ q]at d;exact On L j g d h0
   .rename_i x y e u A q;rw[TZ A,TZ q]at d;exact TY L j g d h0
   .cases h
  |_=>unfold hS at h;simp only[d]at h;cases h
 |_=>unfold hS at h;simp only[d]at h;cases h
def oe{q:St}{K c:St->Prop}(h:dE P E w0 I0 n o q K)(d:∀q,K q->∃b,iz P E w0 I0 n q b/\c b):dE P E w0 I0 n o q c:=λa w e f=>lZ (λa' w' ⟨b,g1,g⟩=>by obtain⟨i,h1,j⟩:=d b g;exact⟨i,h1 a' w' g1,j⟩) (h a w e f)
include L in
theorem eo.sL {l:Z qm} (h:eo P E T X w0 I0 n W o s kx (λs=>sL W s l K) out):eo P E T X w0 I0 n W o s kx K out:=by
 cases h with
 |one d e f h=>obtain⟨s2,k,m,_,r⟩:=pf (P:=P) (E:=E) (X:=X) (w0:=w0) (I0:=I0) (n:=n) L _ _ _ e;refine .one s2 k (f.trans m) λq i=>oe (h q i) λq1 g=>?_;obtain⟨c,a,b,_⟩:=r q1 g.1;exact⟨c,a,b,λj=>by cases j⟩
 |fO j d s2 t u v w h=>
  obtain⟨x,y,z,_,A⟩:=pf (P:=P) (E:=E) (X:=X) (w0:=w0) (I0:=I0) (n:=n) L _ _ _ t;obtain⟨B,C,D,_,G⟩:=pf (P:=P) (E:=E) (X:=X) (w0:=w0) (I0:=I0) (n:=n) L _ _ _ u;refine .fO j x B y C (v.trans z) (w.trans D) λq i=>oe (h q i) λq1 g=>?_;rcases g with g|g
  .obtain ⟨c,a,b,_⟩:=A q1 g;exact⟨c,a,.inl b⟩
  .obtain ⟨c,a,b,_⟩:=G q1 g;exact⟨c,a,.inr b⟩
 |dO p d e f h=>exact .dO p d e f h
include L in
theorem MQ(a:bP P E T X)(b:(∃k,s.m k=W)->E.dc=F)(c:aW n o=W)(h:HN X kx esc o s K=O out):eo P E T X w0 I0 n W o s kx K out:=by
 unfold HN at h;cases d:Qf esc o.dst with
 |true=>rw[d]at h;replace h:hS X kx [] W o s (λs=>sL W s (V7 o.dst) K)=O out:=h;exact eo.sL L (FZ (w0:=w0) (I0:=I0) L a b c h)|false=>rw[d]at h;replace h:hS X kx esc W o s K=O out:=h;exact FZ (w0:=w0) (I0:=I0) L a b c h
def QN(f:Nat->β)(k:Nat):aa f k (f k)=f:=by
 funext j;unfold aa;split
 .rename_i e;rw[e]
 .rfl
def aX.QO {t:Nat} (h:aX P E T X s q) {r:R U.C} (a:bC P E T s.b q.g s.tick r (q.r t)):aX P E T X (s.put (O t) r) q:=by have:=h.put (O t) a;simp only[St.qZ,QN]at this;exact this
def QE(P:qK)(E:cm)(T:dm U.C)(X:gj U)(sB:S U.C)(k:S U.C->V α)(out:α)(q:St):Prop:=∃s',aX P E T X s' q/\bE sB s'/\k s'=O out
def XE(P:qK)(E:cm)(T:dm U.C)(X:gj U)(sB:S U.C)(kx:rq U->S U.C->V α)(out:α)(av:AV)(q:St):Prop:=∃p s',aX P E T X s' q/\bE sB s'/\kx p s'=O out/\eV p.t=W/\av=.mQ p.TC (enc T p.t p.x)
include L in
theorem sb(z:bP P E T X){sB:S U.C}(A:(∃k,sB.m k=W)->E.dc=F){d:Array JB}(B:iJ n d=W){Q:eA->St->Prop}(C:∀q,QE P E T X sB K out q->Q .normal q){Zloc:AV->St->Prop}(D:∀av q,XE P E T X sB kx out av q->Zloc av q):
  ∀(l:Z JB)(i:Nat)(s:S U.C)(q:St)(a:Act)(w:zI),(∀j,l[j]?=d[i+j]?)->bE sB s->mE X kx esc d l s K=O out->aX P E T X s q->gi P E w0 I0 n q a w->
  wpOps P d (wQ P E w0 I0 n Q Zloc) (List.range' i l.length) a w
 |[],i,s,q,a,w,_,hm,h,c,g=>⟨q,g,C q ⟨s,c,hm,h⟩⟩|o::l,i,s,q,a,w,i0,hm,h,c,g=>by
  have j0:d[i]?=O o:=by simpa using(i0 0).symm
  have H:∀j,l[j]?=d[(i+1)+j]?:=λj=>by have:=i0 (j+1);simpa[jd,jF 1]using this
  have f0:=qO.1 B o (jP j0);simp only[aI]at f0;simp only[ec,List.range'_succ,wpOps,j0];have J:∀s:S U.C,bE sB s->aX P E T X s q->HN X kx esc o s (λs=>mE X kx esc d l s K)=O out->o.wp P a w (wpOps P d (wQ P E w0 I0 n Q Zloc) (List.range' (i+1) l.length)) (wQ P E w0 I0 n Q Zloc):=λs hm c h=>by
   cases MQ (w0:=w0) (I0:=I0) L z (by rw[hm.m];exact A) f0.1 h with
   |one s1 g0 N R=>exact lZ (λa' w' ⟨a0,g1,g2⟩=>sb z A B C D l (i+1) s1 a0 a' w' H (hm.trans N) g0 g2.1 g1) (R q c a w g _)|fO v0 s1 s2 n0 o0 N p0 R=>
    refine lZ (λa' w' ⟨a0,g1,g2⟩=>?_) (R q c a w g _);rcases g2 with g2|g2
    .exact sb z A B C D l (i+1) s1 a0 a' w' H (hm.trans N) n0 g2 g1
    .exact sb z A B C D l (i+1) s2 a0 a' w' H (hm.trans p0) o0 g2 g1
   |dO p s1 g0 N R=>obtain⟨q0,r0⟩:=R q c;refine lZ (λa' w' ⟨a0,g1,g2⟩=>g2.elim) (r0 a w g _ λx v s' a' w' I' s0 l0 b0 c0=>?_);exact⟨x,v,s',I',s0,rfl,D _ _ ⟨p,s1,l0.1,hm.trans N,g0,q0,l0.2⟩,b0,c0⟩
  have x0:∀s:S U.C,bE sB s->aX P E T X s q->mE X kx esc d l s K=O out->wpOps P d (wQ P E w0 I0 n Q Zloc) (List.range' (i+1) l.length) a w:=λs hm c h=>sb z A B C D l (i+1) s q a w H hm h c g;have skip:∀s:S U.C,bE sB s->aX P E T X s q->mE X kx esc d l (s.put o.dst o6) K=O out->wpOps P d (wQ P E w0 I0 n Q Zloc) (List.range' (i+1) l.length) (a.put o.dst undef) w:=λs hm c h=>by refine sb z A B C D l (i+1) _ (q.put o.dst (.fK [])) _ w H (hm.trans (bh _ _)) h (c.put o.dst (.fK [] [] rfl λi r q c0=>by simp at c0)) ?_;obtain⟨I,be,b0⟩:=g;exact⟨I,be,b0.put o.dst (r:=.fK []) ⟨#[],rfl,rfl,λj r c0=>by simp at c0⟩⟩
  unfold mE at h;cases d0:o.guard with
  |none=>simp only[d0]at h;simp only[Region.wanted,d0,ca];exact .inl (J s hm c h)|some p=>
   obtain⟨j,G⟩:=p;simp only[d0]at h;split at h
   .cases h
   .rename_i t m0;have t0:t<n:=by have:=f0.2;simp only[d0,m0]at this;simpa using this
    have u0:=g;obtain⟨I,be,b0⟩:=u0;have m:=c.cu t;have h0:∀b,tv q t G=O b->(yielded d a.tmps j==O G)=b:=λb y=>tw b0 t0 m0 y;simp only[Region.wanted,d0];split at h
    .rename_i b y;have f:q.r t=.val (.fl (.bool b)):=by
      rw[y]at m;cases m with
      |val _ _ _ av f hv=>obtain ⟨_,rfl⟩:=hv;exact dF f
     rw[h0 (b==G) (by simp[tv,f])];have e0:∀b',b'=b->aX P E T X (s.put (O t) (.val .bool b')) q:=λb' e=>c.QO (by subst e;rw[f];exact bg (t:=.bool) rfl);cases b<;>cases G<;>simp only[bf,bq]at h<;>simp
     .exact .inl (J (s.put (O t) _) (hm.trans (bh _ _)) (e0 _ rfl) h)
     .exact skip (s.put (O t) _) (hm.trans (bh _ _)) (e0 _ rfl) h
     .exact skip (s.put (O t) _) (hm.trans (bh _ _)) (e0 _ rfl) h
     .exact .inl (J (s.put (O t) _) (hm.trans (bh _ _)) (e0 _ rfl) h)
    .rename_i b y;have f:q.r t=.val (.fl (.bool b)):=by
      rw[y]at m;generalize q.r t=u at m;cases m with
      |const _ y0=>rfl
     rw[h0 (b==G) (by simp[tv,f])];cases b<;>cases G<;>simp only[Bool.xor_self,Bool.xor_true,Bool.xor_false,M3,kb,bf,bq]at h<;>simp
     .exact .inl (J _ hm c h)
     .exact skip _ hm c h
     .exact skip _ hm c h
     .exact .inl (J _ hm c h)
    .rename_i y;have f:∃qs,q.r t=.fK qs:=by
      rw[y]at m;generalize q.r t=u at m;cases m with
      |fK _ qs _ _=>exact ⟨qs,rfl⟩
     obtain⟨qs,f⟩:=f;rw[h0 F (by simp[tv,f])];simp;exact skip _ hm c h
    .cases h
end
section
variable{C:Nat->Type}
inductive Item(s:S C):RS->R C->R C->List (Nat×B C)->Prop
 |val (t:Ty) (x:R C) (v:bL C t) (h:fD t x=O v):Item s (.val t) x (.val t v) []
 |bM (t:Ty) (xs:List (bL C t)):Item s (.bM t) (.bM t xs) (.bM t xs) []
 |dT (d k:Nat):Item s (.dT d k) (.dT d k) (.dT d k) []
 |whole (d:Nat):Item s (.whole d) (.whole d) (.whole d) []
 |bU (d:Nat) (t:Ty) (e:TypeId) (d':Nat) (xs:List (bL C t)) (h:s.box d'=O (.bi t e xs)):Item s (.bU d t e) (.whole d') (.whole d) [(d,.bi t e xs)]
 |Xz (d:Nat) (t:Ty) (e:TypeId):Item s (.bU d t e) (.bM t []) (.whole d) [(d,.bi t e [])]
 |XA (d:Nat) (t:Ty) (e:TypeId):Item s (.bU d t e) (.gx t) (.whole d) [(d,.bi t e [])]
 |XC (d:Nat) (t:Ty) (e:TypeId) (v:Value) (h:eW v=W):Item s (.bU d t e) (.const v) (.whole d) [(d,.bi t e [])]
 |dJ (t:Ty) (z:bL C t) (k:Nat):Item s (.dJ t k) (.dJ t z k) (.dJ t z k) []
def hk(tick:Nat)(bs:Z (Nat×B C)):Z (Nat×Nat×B C):=bs.map λe=>(e.1,tick,e.2)
def MR{s:S C}{r:RS}{x:R C}{ts:Z Ty}{y:HL C ts}{z:HL C (HO r.ty ts)}(tick:Nat)(h:r.pN s x ts y=O z):∃c bs,Item s r x c bs/\r.load tick ts z=((c,hk tick bs),y):=by
 cases r with
 |val t=>
  simp only[RS.pN]at h;split at h
  .rename_i v hv;obtain rfl:=cr h;exact⟨_,_,.val t x v hv,by simp[RS.load,hk]⟩
  .cases h
 |bM t=>
  simp only[RS.pN]at h;split at h
  .rename_i b xs;split at h
   .rename_i v hv;obtain⟨e,rfl⟩:=bN hv;simp only[Ty.aq.injEq]at e;subst e;obtain rfl:=cr h;exact⟨_,_,.bM b xs,by simp[RS.load,hk]⟩
   .cases h
  .cases h
 |dT d k=>
  simp only[RS.pN]at h;split at h
  .rename_i d' k';replace h:=aA h;obtain⟨f,h⟩:=h;simp only[aI]at f;obtain⟨a,i⟩:=f;obtain rfl:=bV a;obtain rfl:=bV i;obtain rfl:=cr h;exact⟨_,_,.dT d k,rfl⟩
  .cases h
 |whole d=>
  simp only[RS.pN]at h;split at h
  .rename_i d';replace h:=aA h;obtain⟨a,h⟩:=h;obtain rfl:=bV a;obtain rfl:=cr h;exact⟨_,_,.whole d,rfl⟩
  .cases h
 |bU d t e=>
  simp only[RS.pN]at h;split at h
  .rename_i d';split at h
   .rename_i b e' xs j;replace h:=aA h;obtain⟨a,h⟩:=h;obtain rfl:=di a;split at h
    .rename_i v hv;obtain⟨g,rfl⟩:=bN hv;simp only[Ty.aq.injEq]at g;subst g;obtain rfl:=cr h;exact⟨_,_,.bU d b e' d' xs j,by simp[RS.load,hk]⟩
    .cases h
   .cases h
  .rename_i b xs;replace h:=aA h;obtain⟨a,h⟩:=h;obtain rfl:=di a;split at h
   .obtain rfl:=cr h;exact⟨_,_,.Xz d b e,by simp[RS.load,hk]⟩
   .cases h
  .rename_i v;replace h:=aA h;obtain⟨a,h⟩:=h;obtain rfl:=cr h;exact⟨_,_,.XC d t e v a,by simp[RS.load,hk]⟩
  .rename_i b;replace h:=aA h;obtain⟨a,h⟩:=h;obtain rfl:=di a;obtain rfl:=cr h;exact⟨_,_,.XA d b e,by simp[RS.load,hk]⟩
  .cases h
 |dJ t k=>
  simp only[RS.pN]at h;split at h
  .rename_i b l k';replace h:=aA h;obtain⟨a,h⟩:=h;obtain rfl:=bV a;split at h
   .rename_i v hv;obtain⟨e,rfl⟩:=bN hv;subst e;obtain rfl:=cr h;exact⟨_,_,.dJ b l k,by simp[RS.load,hk]⟩
   .cases h
  .cases h
inductive BM(s:S C):List (Nat×RS)->List (Nat×R C)->List (Nat×B C)->Prop
 |nil:BM s [] [] []
 |cons {q:Nat} {r:RS} {l:List (Nat×RS)} {R':R C} {rs:List (Nat×R C)} {b1 b2:List (Nat×B C)} (h:Item s r (s.bQ q) R' b1) (h2:BM s l rs b2):BM s ((q,r)::l) ((q,R')::rs) (b1++b2)
inductive pR(s:S C):List RS->List (R C)->List (R C)->List (Nat×B C)->Prop
 |nil:pR s [] [] [] []
 |cons {r:RS} {l:List RS} {x R':R C} {xs rs:List (R C)} {b1 b2:List (Nat×B C)} (h:Item s r x R' b1) (h2:pR s l xs rs b2):pR s (r::l) (x::xs) (R'::rs) (b1++b2)
inductive tQ(s:S C):List (Nat×BS)->List (Nat×B C)->Prop
 |nil:tQ s [] []
 |cells {d:Nat} {t:Ty} {cs:List RS} {l:List (Nat×BS)} {xs rs:List (R C)} {b1 b2:List (Nat×B C)} (hb:s.box d=O (.cells t xs)) (h:pR s cs xs rs b1) (h2:tQ s l b2):tQ s ((d,.cells t cs)::l) ((d,.cells t rs)::(b1++b2))
 |bi {d:Nat} {t:Ty} {e:TypeId} {l:List (Nat×BS)} {xs:List (bL C t)} {b2:List (Nat×B C)} (hb:s.box d=O (.bi t e xs)) (h2:tQ s l b2):tQ s ((d,.bi t e)::l) ((d,.bi t e xs)::b2)
def vE(tick:Nat)(a b:Z (Nat×B C)):hk tick (a++b)=hk tick a++hk tick b:=by simp[hk]
def Ed{s:S C}(tick:Nat):∀(l:Z (Nat×RS))(ts:Z Ty)(y:HL C ts)(z:HL C (tH l ts)),vq s l ts y=O z->∃rs bs,BM s l rs bs/\o8 tick l ts z=((rs.map λe=>(e.1,tick,e.2),hk tick bs),y)
 |[],ts,y,z,h=>by have h:O y=O z:=h;obtain rfl:=cr h;exact⟨[],[],.nil,rfl⟩|(q,r)::l,ts,y,z,h=>by
  simp only[vq]at h;split at h
  .rename_i a b;obtain⟨rs,b2,h1,c⟩:=Ed tick l ts y a b;obtain⟨g,b1,d,f⟩:=MR tick h;refine⟨_,_,.cons d h1,?_⟩;simp only[o8,f,c,vE,dy]
  .cases h
def Ee{s:S C}(tick:Nat):∀(l:Z RS)(ts:Z Ty)(xs:Z (R C))(y:HL C ts)(z:HL C (pM l ts)),mR s l ts xs y=O z->∃rs bs,pR s l xs rs bs/\loadCells tick l ts z=((rs,hk tick bs),y)
 |[],ts,[],y,z,h=>by have h:O y=O z:=h;obtain rfl:=cr h;exact⟨[],[],.nil,rfl⟩|[],ts,_::_,y,z,h=>by simp[mR]at h|r::l,ts,[],y,z,h=>by simp[mR]at h
 |r::l,ts,x::xs,y,z,h=>by
  simp only[mR]at h;split at h
  .rename_i a b;obtain⟨rs,b2,h1,c⟩:=Ee tick l ts xs y a b;obtain⟨f,b1,d,e⟩:=MR tick h;refine⟨_,_,.cons d h1,?_⟩;simp only[loadCells,e,c,vE]
  .cases h
def xl{s:S C}(tick:Nat):∀(l:Z (Nat×BS))(z:HL C (kq l)),mS s l=O z->∃bs,tQ s l bs/\mT tick l z=hk tick bs
 |[],z,h=>⟨[],.nil,rfl⟩|(d,.cells t cs)::l,z,h=>by
  simp only[mS]at h;split at h
  .rename_i j xs x a b;replace h:=aA h;obtain⟨c,h⟩:=h;obtain rfl:=di c;obtain⟨k,f,g⟩:=xl tick l x b;obtain⟨rs,b1,m,n⟩:=Ee tick cs _ _ _ _ h;refine⟨_,.cells a m f,?_⟩;simp only[mT,n,g];simp[hk]
  .cases h
 |(d,.bi t e)::l,z,h=>by
  simp only[mS]at h;split at h
  .rename_i j e' xs x a b;replace h:=aA h;obtain⟨c,h⟩:=h;obtain rfl:=di c;split at h
   .rename_i v hv;obtain⟨i,rfl⟩:=bN hv;simp only[Ty.aq.injEq]at i;subst i;obtain rfl:=cr h;obtain⟨k,f,g⟩:=xl tick l x b;refine⟨_,.bi a f,?_⟩;simp only[mT,eJ,eK,g];simp[hk]
   .cases h
  .cases h
end
end Go.X
namespace Go.Ev
open Go
inductive fb(s s2:St)(φ:Nat->Option Nat):cy->cy->Prop
 |none (u:cy):fb s s2 φ u .none
 |val (a:AV):fb s s2 φ (.val a) (.val a)
 |bM (xs:List AV):fb s s2 φ (.bM xs) (.bM xs)
 |dT (d d' k:Nat) (h:φ d=O d') (hb:s.b d'≠Option.none):fb s s2 φ (.dT d' (s.g d') 0 0 k) (.dT d 1 0 0 k)
 |view (d d' len e:Nat) (xs:List AV) (h:φ d=O d') (hb:s.b d'=O (.bi e xs)) (hb2:s2.b d=O (.bi e xs)):fb s s2 φ (.view d' (s.g d') 0 len) (.view d 1 0 len)
 |nil (d e:Nat) (h:φ d=Option.none) (hb2:s2.b d=O (.bi e [])):fb s s2 φ (.bM []) (.view d 1 0 0)
 |gx (d e:Nat) (h:φ d=Option.none) (hb2:s2.b d=O (.bi e [])):fb s s2 φ (.val .gx) (.view d 1 0 0)
inductive F8(s s2:St)(φ:Nat->Option Nat):Bx->Bx->Prop
 |bi (e:Nat) (xs:List AV):F8 s s2 φ (.bi e xs) (.bi e xs)
 |cells (cs cs2:List cy) (hl:cs.length=cs2.length) (h:∀(i:Nat)(c c2:cy),cs[i]?=O c->cs2[i]?=O c2->fb s s2 φ c c2):F8 s s2 φ (.cells cs) (.cells cs2)
section
variable{P:qK}{E:cm}{w0:zI}{I0:aD}{n:Nat}{s s2:St}{a:Act}{w:zI}{I:aD}{be:Nat->V Nat}{φ:Nat->V Nat}
def Ih(f:∀d,s2.g d=1){v:Jz}{r i:cy}(j:fb s s2 φ r i)(h:b4 P w I be s.b s.g v r):b4 P w I (λd=>(φ d).bind be) s2.b s2.g v i:=by
 cases j with
 |none u=>trivial|val a=>exact h
 |bM xs=>exact h|dT d d' k b g=>refine⟨by rw[f];exact a6 _,λ_ _=>?_⟩;obtain⟨B,h1,l⟩:=h.2 rfl g;exact⟨B,by simp[b,h1],l⟩
 |view d d' len e xs b g c=>refine⟨by rw[f];exact a6 _,λ_=>?_⟩;have h1:=h.2 rfl;unfold eg at h1⊢;simp only[g]at h1;simp only[c,b,aM];exact h1|nil d e b c=>
  refine⟨by rw[f];exact a6 _,λ_=>?_⟩;obtain⟨_,A,hv⟩:=h;unfold eg;simp only[c,b,Option.bind_none];exact⟨a6 _,A,hv⟩
 |gx d e b c=>
  refine⟨by rw[f];exact a6 _,λ_=>?_⟩;cases(show cq w I v .gx from h)with
  |gx A=>unfold eg;simp only[c,b,Option.bind_none];exact⟨a6 _,A,rfl⟩
def QP(N:s2.a=s.a)(Q:s2.u=s.u)(R:s2.df=s.df)(A:∀d,s2.g d=1)(S:∀g k d',φ g=O d'->φ k=O d'->s2.b g≠Y->s2.b k≠Y->g=k)(T:∀t,fb s s2 φ (s.r t) (s2.r t))
  (D:∀d x,s2.b d=O x->(φ d=Y/\∃e,x=.bi e []/\0<P.cellsOf e)∨∃d' l,φ d=O d'/\s.b d'=O l/\F8 s s2 φ l x) (h:gi P E w0 I0 n s a w):gi P E w0 I0 n s2 a w:=by
 obtain⟨I,be,h⟩:=h;have v:∀d B,s2.b d≠Y->(φ d).bind be=O B->∃d',φ d=O d'/\s.b d'≠Y/\be d'=O B:=λd B m f=>by
  cases y:s2.b d with
  |none=>exact absurd y m|some x=>
   rcases D d x y with⟨b,_⟩|⟨d',l,b,c,z⟩
   .rw[b]at f;cases f
   .rw[b]at f;exact⟨d',b,by rw[c];simp,f⟩
 refine⟨I,λd=>(φ d).bind be,h.since,h.size,by rw[R];exact h.defers,λt U=>Ih A (T t) (h.cu t U),λd x y=>?_,λg k B b c z X=>?_,λd B m f=>?_,(λd bo _ c _=>by rw[A]at c;cases c),?_⟩
 .rcases D d x y with⟨b,e,rfl,a0⟩|⟨d',l,b,c,z⟩
  .refine ⟨a0,dS _,λi x hi=>by simp at hi,?_⟩;simp[b]
  .have G:=h.bG d' l c;cases z with
   |bi e xs=>obtain⟨q1,o,p,q⟩:=G;refine⟨q1,o,p,?_⟩;simp only[b,aM];exact q|cells cs j0 H b0=>
    obtain⟨B,cur,t,q1,o,p,q⟩:=G;refine⟨B,cur,t,by simp[b,q1],o,by rw[p,H],λj c0 J=>?_⟩;have K:j<cs.length:=by rw[H];exact (aY.1 J).1
    exact Ih A (b0 j cs[j] c0 (by simp[K]) J) (q j cs[j] (by simp[K]))
 .obtain ⟨L,C,r,u⟩:=v g B b z;obtain⟨d0,e0,f0,g0⟩:=v k B c X;have:=h.inj L d0 B r f0 u g0;subst this;exact S g k L C e0 b c
 .obtain ⟨d',C,r,u⟩:=v d B m f;exact h.bU d' B r u
 .rw[N,Q];refine⟨h.bb.hC,h.bb.inj,λi B hi f=>?_,h.bb.un,h.bb.ro⟩;obtain⟨q1,o,p,q,h0⟩:=h.bb.bU i B hi f;refine⟨q1,o,p,q,?_⟩;rintro⟨d,m,i0⟩;obtain⟨d',C,r,u⟩:=v d B m i0;exact h0 ⟨d',r,u⟩
end
end Go.Ev
namespace Go.X
open Go Go.Ev
variable{Yloc:Ty->JA->Prop}{ow:Z Nat}{u:cy}{C:Nat->Type}{tick d:Nat}{f:JC}{c:F4}{Mloc:Z (Nat×V Nat)}{l:Z RS}{Zloc:AV->St->Prop}{t:Ty}{fn:Pz}{ps:Z Ty}{dO:V (JA×Ty)}{r:RS}{Q:eA->St->Prop}{av:AV}{ob:V Nat}{e:JA}{g:Nat->Nat}{esc:Z (Nat×Nat)}{hint:fC}{xs rs:Z (R C)}
section
variable{C:Nat->Type}
def cf{d:Nat}:∀{l:Z Nat},ig d l=W↔d∈l
 |[]=>by simp[ig]|e::l=>by
  simp only[ig,kS,cT,cf (l:=l)];constructor
  .rintro (h|h)
   .exact .inl (bV h)
   .exact .inr h
  .rintro (rfl|h)
   .exact .inl (py _)
   .exact .inr h
def pS:∀{l:Z Nat},Bd l=W->l.Nodup
 |[],_=>.nil|d::l,h=>by simp only[Bd,aI,il]at h;refine lV.2 ⟨λa=>?_,pS h.2⟩;rw[cf.2 a]at h;cases h.1
def F9:R C->V Nat
 |.whole d=>O d|_=>Y
def RS.mv (x:R C):RS->Z (Nat×V Nat)
 |.bU d _ _=>[(d,F9 x)]|_=>[]
def Po(s:S C):Z (Nat×RS)->Z (Nat×V Nat)
 |[]=>[]|(q,r)::l=>r.mv (s.bQ q)++Po s l
def Ii:Z RS->Z (R C)->Z (Nat×V Nat)
 |r::l,c::rs=>r.mv c++Ii l rs|_,_=>[]
def GZ(s:S C):Z (Nat×BS)->Z (Nat×V Nat)
 |[]=>[]|(d,.cells _ cs)::l=>(d,O d)::((match s.box d with
  |some (.cells _ rs)=>Ii cs rs|_=>[])++GZ s l)
 |(d,.bi _ _)::l=>(d,O d)::GZ s l
def QQ(x:R C)(r:RS):(r.mv x).filterMap (·.2)=r.src x:=by cases r<;>cases x<;>rfl
def MS(s:S C):∀l,(Po s l).filterMap (·.2)=ME s l
 |[]=>rfl|(q,r)::l=>by simp only[Po,ME,L6,QQ,MS s l]
def MT:∀(l:Z RS)(rs:Z (R C)),(Ii l rs).filterMap (·.2)=DQ l rs
 |[],_=>by simp[Ii,DQ]|_::_,[]=>by simp[Ii,DQ]
 |r::l,c::rs=>by simp only[Ii,DQ,L6,QQ,MT l rs]
def Ga(s:S C):∀l,(GZ s l).filterMap (·.2)=DR s l
 |[]=>rfl|(d,.cells t cs)::l=>by
  simp only[GZ,DR,DA,L6,Ga s l];congr 2;cases a:s.box d with
  |none=>rfl|some b=>cases b with
   |cells t rs=>simp only[MT]|bi t e xs=>rfl
 |(d,.bi t e)::l=>by simp only[GZ,DR,DA,Ga s l]
def xm{c e d':Nat}:∀{Mloc:Z (Nat×V Nat)},(Mloc.filterMap (·.2)).Nodup->(c,O d')∈Mloc->(e,O d')∈Mloc->c=e
 |[],_,h1,_=>by cases h1
 |(d,o)::Mloc,b,h1,a=>by
  have f:∀x,(x,O d')∈Mloc->d'∈Mloc.filterMap (·.2):=λx g=>JN.2 ⟨_,g,rfl⟩;cases o with
  |none=>simp only[cT,bc,reduceCtorEq,and_false,false_or]at h1 a;exact xm (Mloc:=Mloc) (by simpa[DA]using b) h1 a|some h=>
   simp only[DA,lV]at b;simp only[cT,bc,ax]at h1 a;rcases h1 with⟨rfl,rfl⟩|h1
   .rcases a with⟨rfl,_⟩|a
    .rfl
    .exact absurd (f _ a) b.1
   .rcases a with⟨rfl,rfl⟩|a
    .exact absurd (f _ h1) b.1
    .exact xm b.2 h1 a
inductive KN(s:S C)(Yloc:Ty->TypeId->Prop)(ow:List Nat)(Mloc:List (Nat×Option Nat))(Zloc:List (Nat×B C)):Nat->B C->Prop
 |bU (d d':Nat) (t:Ty) (e:TypeId) (xs:List (bL C t)) (hm:(d,O d')∈Mloc) (h:s.box d'=O (.bi t e xs)) (ho:d∈ow):KN s Yloc ow Mloc Zloc d (.bi t e xs)
 |nil (d:Nat) (t:Ty) (e:TypeId) (hm:(d,Y)∈Mloc) (ho:d∈ow) (hy:Yloc t e):KN s Yloc ow Mloc Zloc d (.bi t e [])
 |bi (d:Nat) (t:Ty) (e:TypeId) (xs:List (bL C t)) (hm:(d,O d)∈Mloc) (h:s.box d=O (.bi t e xs)):KN s Yloc ow Mloc Zloc d (.bi t e xs)
 |cells (d:Nat) (t:Ty) (cs:List RS) (xs rs:List (R C)) (bs:List (Nat×B C)) (hm:(d,O d)∈Mloc) (h:s.box d=O (.cells t xs)) (hi:pR s cs xs rs bs) (hf:cs.all (RS.Qk ow)=W) (ahc:∀x∈Ii cs xs,x∈Mloc) (hz:∀e∈bs,e∈Zloc):KN s Yloc ow Mloc Zloc d (.cells t rs)
 |Ij (d:Nat) (b:B C) (hm:(d,O d)∈Mloc) (h:s.box d=O b) (hs:b.still ow=W):KN s Yloc ow Mloc Zloc d b
def KN.mono {s:S C} {g:Z Nat} {i:Z (Nat×V Nat)} {Zloc j:Z (Nat×B C)} {b:B C} (h:KN s Yloc ow Mloc Zloc d b) (c:∀x∈Mloc,x∈i) (k:ow=g) (l:∀z∈Zloc,z∈j):KN s Yloc g i j d b:=by
 subst k;cases h with
 |bU d' t e xs a h f=>exact .bU _ d' t e xs (c _ a) h f|nil t e a f m=>exact .nil _ t e (c _ a) f m
 |bi t e xs a h=>exact .bi _ t e xs (c _ a) h|cells t cs xs rs bs a h hi n o p=>exact .cells _ t cs xs rs bs (c _ a) h hi n (λx q=>c _ (o x q)) λe r=>l _ (p e r)
 |Ij _ a h u=>exact .Ij _ _ (c _ a) h u
def MU{s:S C}{x i:R C}{bs:Z (Nat×B C)}(h:Item s r x i bs)(c:∀d∈r.o7,d∈ow)(f:∀d t e,r=.bU d t e->Yloc t e):(r.mv x).map (·.1)=bs.map (·.1)/\bs.map (·.1)=r.o7/\∀d b,(d,b)∈bs->KN s Yloc ow (r.mv x) bs d b:=by
 cases h with
 |bU d t e d' xs h=>refine⟨rfl,rfl,λg b a=>?_⟩;simp only[iC,bc]at a;obtain⟨rfl,rfl⟩:=a;exact .bU _ d' t e xs (by simp[RS.mv,F9]) h (c _ (by simp[RS.o7]))|Xz d t e=>refine⟨rfl,rfl,λg b a=>?_⟩;simp only[iC,bc]at a;obtain⟨rfl,rfl⟩:=a;exact .nil _ t e (by simp[RS.mv,F9]) (c _ (by simp[RS.o7])) (f _ _ _ rfl)
 |XC d t e v h=>refine⟨rfl,rfl,λg b a=>?_⟩;simp only[iC,bc]at a;obtain⟨rfl,rfl⟩:=a;exact .nil _ t e (by simp[RS.mv,F9]) (c _ (by simp[RS.o7])) (f _ _ _ rfl)|XA d t e=>refine⟨rfl,rfl,λg b a=>?_⟩;simp only[iC,bc]at a;obtain⟨rfl,rfl⟩:=a;exact .nil _ t e (by simp[RS.mv,F9]) (c _ (by simp[RS.o7])) (f _ _ _ rfl)
 |_=>exact ⟨rfl,rfl,λd b a=>by simp at a⟩
def Ot{s:S C}{l:Z (Nat×RS)}{rs:Z (Nat×R C)}{bs:Z (Nat×B C)}(h:BM s l rs bs):(∀d∈sO l,d∈ow)->(∀q d t e,(q,RS.bU d t e)∈l->Yloc t e)->(Po s l).map (·.1)=bs.map (·.1)/\bs.map (·.1)=sO l/\(∀d b,(d,b)∈bs->KN s Yloc ow (Po s l) bs d b)/\∀t f,(t,f)∈rs->∃r b1,(t,r)∈l/\Item s r (s.bQ t) f b1/\(∀x∈r.mv (s.bQ t),x∈Po s l)/\∀e∈b1,e∈bs:=by
 induction h with
 |nil=>exact λ_ _=>⟨rfl,rfl,(λd b h=>by cases h),λt f h=>by cases h⟩
 |cons h G p=>
  rename_i q r l f rs b1 H;intro n o;obtain⟨u,a2,v⟩:=MU (ow:=ow) h (λd i=>n d (by simp[sO,i])) (Yloc:=Yloc) λd t e j=>o q d t e (by simp[j]);obtain⟨w,c2,c3,y⟩:=p (λd i=>n d (by simp[sO,i])) λq d t e j=>o q d t e (by simp[j]);refine⟨by simp[Po,u,w],by simp[sO,a2,c2],λd b c=>?_,λt A g=>?_⟩
  .rcases dR.1 c with c|c
   .exact (v d b c).mono (λx a=>by simp[Po,a]) rfl λz k=>by simp[k]
   .exact (c3 d b c).mono (λx a=>by simp[Po,a]) rfl λz k=>by simp[k]
  .simp only[cT,bc]at g;rcases g with⟨rfl,rfl⟩|g
   .exact ⟨r,b1,aE,h,λx a=>by simp[Po,a],λe m=>by simp[m]⟩
   .obtain ⟨D,b',e1,e2,e3,E⟩:=y t A g;exact⟨D,b',by simp[e1],e2,λx a=>by simp[Po,e3 x a],λe m=>by simp[E e m]⟩
def Ou{s:S C}{xs rs:Z (R C)}{bs:Z (Nat×B C)}(h:pR s l xs rs bs):(∀d∈yj l,d∈ow)->(∀d t e,RS.bU d t e∈l->Yloc t e)->(Ii l xs).map (·.1)=bs.map (·.1)/\bs.map (·.1)=yj l/\(∀d b,(d,b)∈bs->KN s Yloc ow (Ii l xs) bs d b):=by
 induction h with
 |nil=>exact λ_ _=>⟨rfl,rfl,λd b h=>by cases h⟩
 |cons h r m=>
  intro j k;obtain⟨n,a2,o⟩:=MU (ow:=ow) h (λd c=>j d (by simp[yj,c])) (Yloc:=Yloc) λd t e f=>k d t e (by simp[f]);obtain⟨p,c2,q⟩:=m (λd c=>j d (by simp[yj,c])) λd t e f=>k d t e (by simp[f]);refine⟨by simp[Ii,n,p],by simp[yj,a2,c2],λd b a=>?_⟩;rcases dR.1 a with a|a
  .exact (o d b a).mono (λx g=>by simp[Ii,g]) rfl λz i=>by simp[i]
  .exact (q d b a).mono (λx g=>by simp[Ii,g]) rfl λz i=>by simp[i]
def MV(t:Ty)(e:JA):Z (Nat×BS)->Prop
 |[]=>False|(_,.cells _ cs)::l=>(∃d,RS.bU d t e∈cs)∨MV t e l
 |(_,.bi _ _)::l=>MV t e l
def Ov{s:S C}{l:Z (Nat×BS)}{bs:Z (Nat×B C)}(h:tQ s l bs):(∀d∈Bc l,d∈ow)->(∀t e,MV t e l->Yloc t e)->HP ow l=W->(GZ s l).map (·.1)=bs.map (·.1)/\bs.map (·.1)=yk l/\(∀d b,(d,b)∈bs->KN s Yloc ow (GZ s l) bs d b)/\(∀x∈GZ s l,x.1∈bs.map (·.1)):=by
 induction h with
 |nil=>exact λ_ _ _=>⟨rfl,rfl,(λd b h=>by cases h),λx a=>by cases a⟩
 |cells k hi u p=>
  rename_i d t cs l xs rs v w;intro m n f;simp only[HP,aI]at f;obtain⟨r,a2,y⟩:=Ou (ow:=ow) (Yloc:=Yloc) hi (λd g=>m d (by simp[Bc,g])) λd t e q=>n t e (.inl ⟨d,q⟩);obtain⟨i,c2,c3,A⟩:=p (λd g=>m d (by simp[Bc,g])) (λt e q=>n t e (.inr q)) f.2;have D:GZ s ((d,.cells t cs)::l)=(d,O d)::(Ii cs xs++GZ s l):=by simp only[GZ,k]
  rw[D];refine⟨by simp[r,i],by simp[yk,a2,c2],λo b c=>?_,λx a=>?_⟩
  .simp only[cT,dR,bc]at c;rcases c with⟨rfl,rfl⟩|c|c
   .exact .cells _ t cs xs rs v aE k hi f.1 (λx a=>by simp[a]) λe E=>by simp[E]
   .exact (y o b c).mono (λx a=>by simp[a]) rfl λz j=>by simp[j]
   .exact (c3 o b c).mono (λx a=>by simp[a]) rfl λz j=>by simp[j]
  .have:x.1∈((d,O d)::(Ii cs xs++GZ s l)).map (·.1):=dP.2 ⟨x,a,rfl⟩;simpa[r,i]using this
 |bi k u p=>
  rename_i d t e l xs w;intro m n f;obtain⟨i,c2,c3,A⟩:=p (λd g=>m d (by simpa[Bc]using g)) n f;refine⟨by simp[GZ,i],by simp[yk,c2],λo b c=>?_,λx a=>?_⟩
  .simp only[cT,bc]at c;rcases c with⟨rfl,rfl⟩|c
   .exact .bi _ t e xs (by simp[GZ]) k
   .exact (c3 o b c).mono (λx a=>by simp[GZ,a]) rfl λz j=>by simp[j]
  .have:x.1∈(GZ s ((d,.bi t e)::l)).map (·.1):=dP.2 ⟨x,a,rfl⟩;simpa[GZ,i]using this
def tR{β:Type}{p:β->tl}{d s:Z (Nat×Nat×β)}:∀{l:Z Nat},Be p d s l=W->∀t∈l,∃st x y,aB d t=O (st,x)/\aB s t=O (st,y)/\p x=W
 |[],_,t,c=>by cases c
 |j::l,h,t,c=>by
  simp only[Be]at h;split at h
  .rename_i a x b y h1 e;simp only[aI]at h;obtain⟨⟨f,g⟩,i⟩:=h;obtain rfl:=bV f;simp only[cT]at c;rcases c with rfl|c
   .exact ⟨_,_,_,h1,e,g⟩
   .exact tR i t c
  .cases h
def jW{β:Type}{d:Z (Nat×Nat×β)}:∀{l:Z Nat}{t st:Nat}{x:β},(t,st,x)∈o9 d l->t∈l/\aB d t=O (st,x)
 |[],t,st,x,h=>by cases h
 |f::l,t,st,x,h=>by
  simp only[o9]at h;split at h
  .rename_i a y e;simp only[cT,bc]at h;rcases h with⟨rfl,rfl,rfl⟩|h
   .exact ⟨aE,e⟩
   .obtain ⟨b,c⟩:=jW h;exact⟨by simp[b],c⟩
  .obtain ⟨b,c⟩:=jW h;exact⟨by simp[b],c⟩
def Ef{β:Type}{p:β->tl}{c s:Z (Nat×Nat×β)}:∀{l:Z Nat},Be p c s l=W->(o9 c l).map (·.1)=l
 |[],_=>rfl|t::l,h=>by
  simp only[Be]at h;split at h
  .rename_i a x b y h1 d;simp only[aI]at h;simp only[o9,h1,dy,Ef h.2]
  .cases h
end
def kz:Z (Nat×V Nat)->Nat->V Nat
 |[],_=>Y|(e,o)::l,d=>if e=d then o else kz l d
def xn{d d':Nat}:∀{Mloc:Z (Nat×V Nat)},kz Mloc d=O d'->(d,O d')∈Mloc
 |[],h=>by cases h
 |(e,o)::l,h=>by
  simp only[kz]at h;split at h
  .rename_i a;subst a;subst h;simp
  .exact s6 _ (xn h)
def kA{d:Nat}{o:V Nat}:∀{Mloc:Z (Nat×V Nat)},(Mloc.map (·.1)).Nodup->(d,o)∈Mloc->kz Mloc d=o
 |[],_,h=>by cases h
 |(e,c)::l,a,h=>by
  simp only[dy,lV]at a;simp only[cT,bc]at h;simp only[kz];rcases h with⟨rfl,rfl⟩|h
  .simp
  .have:e≠d:=λb=>a.1 (by subst b;exact dP.2 ⟨_,h,rfl⟩);rw[ai this];exact kA a.2 h
def mH{β:Type}{d st:Nat}{x:β}:∀{l:Z (Nat×Nat×β)},(l.map (·.1)).Nodup->(d,st,x)∈l->aB l d=O (st,x)
 |[],_,h=>by cases h
 |(e,st',y)::l,a,h=>by
  simp only[dy,lV]at a;simp only[cT,bc]at h;rw[aQ];rcases h with⟨rfl,rfl,rfl⟩|h
  .simp
  .have:e≠d:=λb=>a.1 (by subst b;exact dP.2 ⟨_,h,rfl⟩);rw[ai this];exact mH a.2 h
section
variable{P:qK}{E:cm}{U:cg}{T:dm U.C}{X:gj U}{w0:zI}{I0:aD}{n:Nat}{s:S U.C}{q:St}{α:Type}{out:α}
variable(L:cw U T)
def Ow(T:dm U.C)(a:Z (Nat×Nat×B U.C))(d:Nat):V Bx:=match aB a d with
 |some (_,.bi t e xs)=>O (.bi e (List.map (enc T t) xs))|some (_,.cells _ _)=>O (.cells [])
 |none=>Y
def qA(T:dm U.C)(c:Z (Nat×Nat×B U.C))(q:St):St:={r:=λ_=>.none,b:=Ow T c,g:=λ_=>1,a:=q.a,u:=q.u,df:=q.df}
def lf{o:Z (Nat×Nat×B U.C)}{Zloc:Z (Nat×B U.C)}(A:(Mloc.map (·.1)).Nodup)(C:∀d st b,aB o d=O (st,b)->KN s Yloc ow Mloc Zloc d b)(p:aX P E T X s q){x:R U.C}(a:x.still ow=W)(c:bC P E T s.b q.g s.tick x u)(tick:Nat):
  ∃D,Ev.fb q (qA T o q) (kz Mloc) u D/\bC P E T o (λ_=>1) tick x D:=by
 have I:∀av,bu u=O av->Ev.fb q (qA T o q) (kz Mloc) u u:=λav h=>by
  cases u<;>simp[bu]at h
  .exact .val _
  .exact .bM _
 cases x with
 |none=>exact ⟨.none,.none _,.none _⟩|val t v=>
  cases c with
  |val _ _ _ av l hv=>exact ⟨u,I av l,.val t v u av l hv⟩
 |const v=>
  cases c with
  |const _ J=>
   refine⟨ct v,?_,.const v J⟩;unfold ct;split
   .exact .bM _
   .exact .val _
   .exact .val _
 |bM t xs=>
  cases c with
  |bM _ _ g=>exact ⟨_,.bM _,.bM t xs g⟩
 |dT d k=>
  cases m:aB o d with
  |none=>exact ⟨.none,.none _,.dT d k _ λst u' rs h=>by rw[m]at h;cases h⟩
  |some e=>
   obtain⟨st,b⟩:=e;cases b with
   |bi t e xs=>exact ⟨.none,.none _,.dT d k _ λst u' rs h=>by rw[m]at h;cases h⟩
   |cells t rs=>
    have n:∃w xs,s.box d=O (.cells w xs)/\(d,O d)∈Mloc:=by
     cases C d st _ m with
     |cells _ cs xs _ bs j h hi c0 d0 e0=>exact ⟨_,_,h,j⟩|Ij _ j h K=>exact ⟨_,_,h,j⟩
    obtain⟨w,xs,n,j⟩:=n;have y:=iY p c n;obtain⟨_,_,cs,l,_⟩:=p.cells n;subst y;exact⟨.dT d 1 0 0 k,.dT d d k (kA A j) (by rw[l];simp),.dT d k _ λst u' rs h=>rfl⟩
 |whole d=>
  simp only[R.still,il]at a;cases m:aB o d with
  |none=>exact ⟨.none,.none _,.whole d _ λst t e xs h=>by rw[m]at h;cases h⟩
  |some e=>
   obtain⟨st,b⟩:=e;cases b with
   |cells t rs=>exact ⟨.none,.none _,.whole d _ λst t e xs h=>by rw[m]at h;cases h⟩
   |bi t e xs=>
    have n:s.box d=O (.bi t e xs)/\(d,O d)∈Mloc:=by
     cases C d st _ m with
     |bU d' _ _ _ j h g=>rw[cf.2 g]at a;cases a
     |nil _ _ j g f0=>rw[cf.2 g]at a;cases a
     |bi _ _ _ j h=>exact ⟨h,j⟩|Ij _ j h K=>exact ⟨h,j⟩
    obtain⟨n,j⟩:=n;have y:=eZ p c n;obtain⟨_,l⟩:=p.bi n;subst y;refine⟨.view d 1 0 xs.length,.view d d _ e (List.map (enc T t) xs) (kA A j) l (by simp[qA,Ow,m]),.whole d _ λst' w e' g0 h=>?_⟩;rw[m]at h;simp only[ax,bc,B.bi.injEq]at h;obtain⟨_,rfl,_,h⟩:=h;cases h;rfl
 |fV _ _ _ _ _ _=>cases a
 |dJ t v k=>
  cases c with
  |dJ _ _ _ g=>exact ⟨_,.val _,.dJ t v k g⟩
 |it=>
  cases c with
  |it=>exact ⟨_,.val _,.it⟩
 |fK _=>cases a
 |sub _ _ _=>cases a
 |sJ _=>cases a
 |pw r=>
  cases r with
  |val t v=>
   cases c with
   |pw _ av h=>
    cases h with
    |val _ _ _ z l hv=>exact ⟨_,.val _,.pw _ _ (.val t v _ z l hv)⟩
  |_=>cases a
 |agg _ _=>cases a
 |lT _ _=>cases a
 |gx t=>
  cases c with
  |gx _ g=>exact ⟨_,.val _,.gx t g⟩
 |fn f caps=>
  cases c with
  |fn _ _ L N Q=>
   refine⟨_,.val _,.fn f caps L N λi r av G S=>?_⟩;have H:=Q i r av G S;simp only[R.still,cS]at a;have:=a r (bF G);cases r with
   |val t v=>
    cases H with
    |val _ _ _ z l hv=>exact .val t v _ z l hv
   |dJ t v k=>
    cases H with
    |dJ _ _ _ g=>exact .dJ t v k g
   |_=>cases this
 |mQ a0 t v=>
  cases c with
  |mQ _ _ _ g=>exact ⟨_,.val _,.mQ a0 t v g⟩
 |ji k i off=>cases c;exact⟨_,.val _,.ji k i off⟩
 |kn k i b0 off=>cases c;exact⟨_,.val _,.kn k i b0 off⟩
def Eg{c:Z (Nat×Nat×B U.C)}{Zloc:Z (Nat×B U.C)}(g:(Mloc.map (·.1)).Nodup)(w:(c.map (·.1)).Nodup)(n:∀d st b,aB c d=O (st,b)->KN s Yloc ow Mloc Zloc d b)(i:aX P E T X s q){x A:R U.C}{C:Z (Nat×B U.C)}(hi:Item s r x A C)(o:∀y∈r.mv x,y∈Mloc)(p:∀e∈C,∃st,(e.1,st,e.2)∈c)(I:r.Qk ow=W)(a:bC P E T s.b q.g s.tick x u)(tick:Nat):
  ∃l,Ev.fb q (qA T c q) (kz Mloc) u l/\bC P E T c (λ_=>1) tick A l:=by
 have D:∀(d:Nat)(t:Ty)(e:JA),u=.bM []->(d,Y)∈Mloc->(∃st,(d,st,B.bi t e [])∈c)->∃l,Ev.fb q (qA T c q) (kz Mloc) u l/\bC P E T c (λ_=>1) tick (.whole d) l:=by rintro d t e rfl m ⟨st,j⟩;have f:=mH w j;refine⟨.view d 1 0 0,.nil d e (kA g m) (by simp[qA,Ow,f]),.whole d _ λst' G e' H h=>?_⟩;rw[f]at h;simp only[ax,bc,B.bi.injEq]at h;obtain⟨_,rfl,_,h⟩:=h;cases h;rfl
 cases hi with
 |val t x v hv=>
  obtain⟨av,h1,J⟩:=ns a hv;refine⟨u,?_,.val t v u av h1 J⟩;cases u<;>simp[bu]at h1
  .exact .val _
  .exact .bM _
 |bM t xs=>exact lf g n i rfl a tick|dT d k=>exact lf g n i rfl a tick
 |whole d=>exact lf g n i (by simpa[R.still,RS.Qk]using I) a tick|bU d t e d' xs j=>have m:=o (d,O d') (by simp[RS.mv,F9]);obtain⟨st,K⟩:=p (d,.bi t e xs) aE;have f:=mH w K;have L:=eZ i a j;obtain⟨_,N⟩:=i.bi j;subst L;refine⟨.view d 1 0 xs.length,.view d d' _ e (List.map (enc T t) xs) (kA g m) N (by simp[qA,Ow,f]),.whole d _ λst' G e' H h=>?_⟩;rw[f]at h;simp only[ax,bc,B.bi.injEq]at h;obtain⟨_,rfl,_,h⟩:=h;cases h;rfl
 |Xz d t e=>refine D d t e ?_ (o (d,Y) (by simp[RS.mv,F9])) (p (d,.bi t e []) aE);cases a;rfl
 |XC d t e v hv=>
  refine D d t e ?_ (o (d,Y) (by simp[RS.mv,F9])) (p (d,.bi t e []) aE);unfold eW at hv;split at hv
  .cases a;rfl
  .cases hv
 |XA d t e=>
  have m:=o (d,Y) (by simp[RS.mv,F9]);obtain⟨st,j⟩:=p (d,.bi t e []) aE;cases a with
  |gx _ _=>have f:=mH w j;refine⟨.view d 1 0 0,.gx d e (kA g m) (by simp[qA,Ow,f]),.whole d _ λst' G e' H h=>?_⟩;rw[f]at h;simp only[ax,bc,B.bi.injEq]at h;obtain⟨_,rfl,_,h⟩:=h;cases h;rfl
 |dJ t z k=>exact lf g n i rfl a tick
def MW{s2 g:St}{φ:Nat->V Nat}{i:cy}(h:Ev.fb q s2 φ u i)(f:∀d e xs,s2.b d=O (.bi e xs)->g.b d=O (.bi e xs)):Ev.fb q g φ u i:=by
 cases h with
 |none u=>exact .none u|val a=>exact .val a
 |bM xs=>exact .bM xs|dT d d' k b c=>exact .dT d d' k b c
 |view d d' len e xs b c j=>exact .view d d' len e xs b c (f _ _ _ j)|nil d e b c=>exact .nil d e b (f _ _ _ c)
 |gx d e b c=>exact .gx d e b (f _ _ _ c)
def KO{s:S C}{bs:Z (Nat×B C)}(h:pR s l xs rs bs):rs.length=xs.length:=by
 induction h with
 |nil=>rfl|cons _ _ a=>simp[a]
def KP{s:S C}{bs:Z (Nat×B C)}(h:pR s l xs rs bs):∀(i:Nat)(x a:R C),xs[i]?=O x->rs[i]?=O a->∃r b1,r∈l/\Item s r x a b1/\(∀y∈r.mv x,y∈Ii l xs)/\∀e∈b1,e∈bs:=by
 induction h with
 |nil=>intro i x a h;simp at h|cons h m g=>
  rename_i r l n o xs rs b1 p;intro i x a b c;cases i with
  |zero=>simp at b c;subst b c;exact⟨r,b1,aE,h,λy d=>by simp[Ii,d],λe f=>by simp[f]⟩|succ i=>obtain⟨j,b',e1,e2,e3,k⟩:=g i x a (by simpa using b) (by simpa using c);exact⟨j,b',by simp[e1],e2,λy d=>by simp[Ii,e3 y d],λe f=>by simp[k e f]⟩
end
section
variable{P:qK}{E:cm}{U:cg}{T:dm U.C}{X:gj U}{w0:zI}{I0:aD}{n:Nat}{α:Type}{out:α}
variable(L:cw U T)
def mW{st:Nat}{b:B C}{bs:Z (Nat×B C)}(h:(d,st,b)∈hk tick bs):st=tick/\(d,b)∈bs:=by unfold hk at h;obtain⟨e,he,h⟩:=dP.1 h;simp only[bc]at h;obtain⟨rfl,rfl,rfl⟩:=h;exact⟨rfl,he⟩
def Eh{e:Nat×B C}{bs:Z (Nat×B C)}(h:e∈bs):(e.1,tick,e.2)∈hk tick bs:=dP.2 ⟨e,h,rfl⟩
def Ox(tick:Nat)(bs:Z (Nat×B C)):(hk tick bs).map (·.1)=bs.map (·.1):=by simp[hk]
def rD{X:gj U}{t:Ty}{e:JA}:∀{l:Z (Nat×BS)},Bg X l=W->MV t e l->X.ty e=O t
 |[],_,h=>h.elim|(_,.cells _ cs)::l,a,h=>by
  simp only[Bg,aI,cS]at a;rcases h with⟨d,h⟩|h
  .exact di (a.1 _ h)
  .exact rD a.2 h
 |(_,.bi _ _)::l,a,h=>rD (l:=l) a h
def Ik:∀l:Z Nat,(l.map λd=>(d,O d)).filterMap (·.2)=l
 |[]=>rfl|d::l=>by simp[Ik l]
def yx{A B D:Type}{R:A->B->D->Prop}:∀(c:Z A)(e:Z B),c.length=e.length->(∀(i:Nat)(a:A)(b:B),c[i]?=O a->e[i]?=O b->∃d,R a b d)->∃f:Z D,f.length=c.length/\∀(i:Nat)(a:A)(b:B)(d:D),c[i]?=O a->e[i]?=O b->f[i]?=O d->R a b d
 |[],[],_,_=>⟨[],rfl,λi a b d h=>by simp at h⟩|[],_::_,h,_=>by simp at h
 |_::_,[],h,_=>by simp at h|a::c,b::e,m,h=>by
  obtain⟨f,h1,g⟩:=yx c e (by simpa using m) λi a' b' h1 g=>h (i+1) a' b' (by simpa using h1) (by simpa using g);obtain⟨d,n⟩:=h 0 a b rfl rfl;refine⟨d::f,by simp[h1],λi a' b' d' j k l=>?_⟩;cases i with
  |zero=>simp at j k l;subst j k l;exact n|succ i=>exact g i a' b' d' (by simpa using j) (by simpa using k) (by simpa using l)
def W4{a s:S U.C}:∀{b:tl}{z:HT U.C b},Zz b a s=O z->bE a s->Kt b a z=s.h
 |true,z,hz,_=>(cr hz).symm|false,z,hz,d=>by have hz:(bif Nat.beq a.hv s.hv&&Nat.blt a.hv a.tick then O ()else Y)=O z:=hz;obtain⟨c,_⟩:=aA hz;simp only[aI,fQ]at c;have e:=bV c.1;exact(d.h (by rw[<-e];exact c.2)).2.symm
def Oy{a:S U.C}:∀{b:tl}(z:HT U.C b),Bf b a<a.tick->Bf b a=a.hv/\Kt b a z=a.h
 |true,z,h=>absurd h (Nat.lt_irrefl _)|false,z,h=>⟨rfl,rfl⟩
include L in
theorem vF(Q0:bP P E T X){j:Sh}(m0:j.sP X=W){f s:S U.C}{x:HL U.C j.Xq×HT U.C j.h}{R0 q:St}(g0:aX P E T X f R0)(h0:bE f s)(H:aX P E T X s q)(h:j.pN f s=O x):
  ∃N,iz P E w0 I0 n q N/\aX P E T X (j.load f x) N/\bE f (j.load f x):=by
 unfold Sh.pN at h;obtain⟨A0,h⟩:=aA h;simp only[aI]at A0;obtain⟨S0,B0,T0,C0,U0,X0⟩:=A0;simp only[Sh.sP,aI,cS]at m0;split at h
 .rename_i e1 i1;split at h
  .rename_i y z J Q;obtain rfl:=cr h;obtain⟨i0,j1,l1⟩:=xl f.tick _ _ i1;obtain⟨rs,d0,m1,n1⟩:=Ed f.tick _ _ _ _ J;have o1:j.load f (y,z)={r:=rs.map (λe=>(e.1,f.tick,e.2))++o9 f.r j.cK,b:=hk f.tick d0++(hk f.tick i0++o9 f.b j.sN),tick:=f.tick+1,h:=Kt j.h f z,hv:=Bf j.h f,m:=f.m}:=by unfold Sh.load;have p1:o8 f.tick j.cu (kq j.bG) y=((rs.map λe=>(e.1,f.tick,e.2),hk f.tick d0),e1):=n1;simp only[p1,l1]
   rw[o1];generalize e0:hk f.tick d0++(hk f.tick i0++o9 f.b j.sN)=l;obtain⟨q1,a2,a3,r1⟩:=Ot (Yloc:=λt e=>X.ty e=O t) (ow:=j.o7) m1 (λd f0=>by simp[Sh.o7,f0]) λq d t e hm=>di (m0.1 _ hm);obtain⟨b1,b2,s1,_⟩:=Ov (Yloc:=λt e=>X.ty e=O t) (ow:=j.o7) j1 (λd f0=>by simp[Sh.o7,f0]) (λt e hm=>rD m0.2 hm) X0;generalize c0:Po s j.cu++(GZ s j.bG++j.sN.map λd=>(d,O d))=Mloc;have t1:Mloc.map (·.1)=sO j.cu++(yk j.bG++j.sN):=by rw[<-c0];simp only[kZ,q1,a2,b1,b2,s5];congr 2;exact(qT λa _=>rfl).trans (zS _)
   have u1:l.map (·.1)=sO j.cu++(yk j.bG++j.sN):=by rw[<-e0];simp only[kZ,Ox,a2,b2,Ef B0]
   have a0:(Mloc.map (·.1)).Nodup:=by rw[t1];exact pS C0
   have D0:(l.map (·.1)).Nodup:=by rw[u1];exact pS C0
   have v1:(Mloc.filterMap (·.2)).Nodup:=by rw[<-c0];simp only[L6,MS,Ga];rw[Ik];exact pS T0
   have w1:∀d∈j.sN,∃st b,aB f.b d=O (st,b)/\aB s.b d=O (st,b)/\b.still j.o7=W:=λd f0=>by obtain⟨st,b,b',h1,k,A⟩:=tR B0 d f0;have:=h0.b d st b' k (g0.DU d st b h1);rw[h1]at this;simp only[ax,bc,ke]at this;subst this;exact⟨st,b,h1,k,A⟩
   have x1:∀t∈j.cK,∃st r,aB f.r t=O (st,r)/\aB s.r t=O (st,r)/\r.still j.o7=W:=λt y1=>by obtain⟨st,r,E0,h1,k,A⟩:=tR S0 t y1;have:=h0.r t st E0 k (g0.Bj t st r h1);rw[h1]at this;simp only[ax,bc,ke]at this;subst this;exact⟨st,r,h1,k,A⟩
   have b0:∀d st b,aB l d=O (st,b)->KN s (λt e=>X.ty e=O t) j.o7 Mloc (d0++i0) d b:=λd st b v=>by
    have hm:=fM v;rw[<-e0]at hm;rcases dR.1 hm with hm|hm
    .exact (a3 d b (mW hm).2).mono (λx G=>by rw[<-c0];simp[G]) rfl λz Q=>by simp[Q]
    .rcases dR.1 hm with hm|hm
     .exact (s1 d b (mW hm).2).mono (λx G=>by rw[<-c0];simp[G]) rfl λz Q=>by simp[Q]
     .obtain ⟨h1,k⟩:=jW hm;obtain⟨st',b',A,n0,o0⟩:=w1 d h1;rw[k]at A;simp only[ax,bc]at A;obtain⟨rfl,rfl⟩:=A;refine .Ij d b (by rw[<-c0];simp[h1]) ?_ o0;unfold S.box;rw[n0]
   have G0:∀e∈d0++i0,∃st,(e.1,st,e.2)∈l:=λe he=>by
    refine⟨f.tick,?_⟩;rw[<-e0];rcases dR.1 he with he|he
    .exact dR.2 (.inl (Eh he))
    .exact dR.2 (.inr (dR.2 (.inl (Eh he))))
   have A1:∀t,∃H0,Ev.fb q (qA T l q) (kz Mloc) (q.r t) H0/\bC P E T l (λ_=>1) (f.tick+1) (S.bQ (C:=U.C) {r:=rs.map (λe=>(e.1,f.tick,e.2))++o9 f.r j.cK,b:=l,tick:=f.tick+1,h:=Kt j.h f z,hv:=Bf j.h f,m:=f.m} t) H0:=λt=>by
    rw[S.gA];simp only;cases v:aB (rs.map (λe=>(e.1,f.tick,e.2))++o9 f.r j.cK) t with
    |none=>exact ⟨.none,.none _,.none _⟩|some e=>
     obtain⟨st,p⟩:=e;simp only;rcases dR.1 (fM v)with hm|hm
     .obtain ⟨e,he,h1⟩:=dP.1 hm;simp only[bc]at h1;obtain⟨h1,k,A⟩:=h1;have B1:(t,p)∈rs:=by rw[<-h1,<-A];exact he
      obtain⟨r,K,p0,c2,c3,r0⟩:=r1 t p B1;exact Eg a0 D0 b0 H c2 (λy J=>by rw[<-c0];simp[c3 y J]) (λe he=>G0 e (by simp[r0 e he])) (cS.1 U0 _ p0) (H.cu t) _
     .obtain ⟨h1,k⟩:=jW hm;obtain⟨st',E0,A,n0,o0⟩:=x1 t h1;rw[k]at A;simp only[ax,bc]at A;obtain⟨rfl,rfl⟩:=A;have I:=H.cu t;rw[S.gA,n0]at I;exact lf a0 b0 H o0 I _
   have C1:∀d,∃L:Z cy,∀st t rs,aB l d=O (st,.cells t rs)->eV t=W/\bD U D t=rs.length/\kz Mloc d=O d/\∃cs,q.b d=O (.cells cs)/\cs.length=L.length/\rs.length=L.length/\∀(i:Nat)(p:R U.C)(c c2:cy),rs[i]?=O p->cs[i]?=O c->L[i]?=O c2->Ev.fb q (qA T l q) (kz Mloc) c c2/\bC P E T l (λ_=>1) (f.tick+1) p c2:=λd=>by
    cases v:aB l d with
    |none=>exact ⟨[],λst t rs h=>by cases h⟩
    |some e=>
     obtain⟨st,b⟩:=e;cases b with
     |bi t e xs=>exact ⟨[],λst t rs h=>by simp at h⟩|cells t j0=>
      have t0:∀xs:Z (R U.C),s.box d=O (.cells t xs)->(d,O d)∈Mloc->j0.length=xs.length->(∀(i:Nat)(x p:R U.C)(c:cy),xs[i]?=O x->j0[i]?=O p->bC P E T s.b q.g s.tick x c->∃c2,Ev.fb q (qA T l q) (kz Mloc) c c2/\bC P E T l (λ_=>1) (f.tick+1) p c2)->∃L:Z cy,∀st t rs,aB l d=O (st,.cells t rs)->eV t=W/\bD U D t=rs.length/\kz Mloc d=O d/\∃cs,q.b d=O (.cells cs)/\cs.length=L.length/\rs.length=L.length/\∀(i:Nat)(p:R U.C)(c c2:cy),rs[i]?=O p->cs[i]?=O c->L[i]?=O c2->Ev.fb q (qA T l q) (kz Mloc) c c2/\bC P E T l (λ_=>1) (f.tick+1) p c2:=by
       intro xs o hm hlen D1;obtain⟨l0,g2,cs,g3,g4⟩:=H.cells o;obtain⟨L,f1,E1⟩:=yx (R:=λ(p:R U.C)(c c2:cy)=>Ev.fb q (qA T l q) (kz Mloc) c c2/\bC P E T l (λ_=>1) (f.tick+1) p c2) j0 cs (by rw[hlen,g4.1]) λi p c h1 k=>by
        have hi:i<xs.length:=by rw[<-hlen];exact (aY.1 h1).1
        exact D1 i xs[i] p c (by simp[hi]) h1 (g4.2 i xs[i] c (by simp[hi]) k)
       refine⟨L,λst' K1 L1 h=>?_⟩;rw[v]at h;simp only[ax,bc,B.cells.injEq]at h;obtain⟨_,rfl,rfl⟩:=h;exact⟨l0,by rw[g2,hlen],kA a0 hm,cs,g3,by rw[f1,hlen,g4.1],f1.symm,λi p c c2 h1 k A=>E1 i p c c2 h1 k A⟩
      rw[v]at t0;have he:=b0 d st _ v;cases he with
      |cells _ cs xs _ bs hm o hi G1 H1 Q=>refine t0 xs o hm (KO hi) λi x p c h1 k I=>?_;obtain⟨r,K,p0,c2,c3,r0⟩:=KP hi i x p h1 k;exact Eg a0 D0 b0 H c2 (λy J=>H1 y (c3 y J)) (λe he=>G0 e (Q e (r0 e he))) (cS.1 G1 _ p0) I _|Ij _ hm o J0=>refine t0 j0 o hm rfl λi x p c h1 k I=>?_;rw[h1]at k;simp only[ax]at k;subst k;simp only[B.still,cS]at J0;exact lf a0 b0 H (J0 x (bF h1)) I _
   obtain⟨I1,K0⟩:=Classical.axiomOfChoice C1;obtain⟨Rf,L0⟩:=Classical.axiomOfChoice A1;let K:Nat->V Bx:=λd=>match aB l d with
    |some (_,.bi t e xs)=>O (.bi e (List.map (enc T t) xs))|some (_,.cells _ _)=>O (.cells (I1 d))
    |none=>Y
   let N:St:={r:=Rf,b:=K,g:=λ_=>1,a:=q.a,u:=q.u,df:=q.df}
   have N0:∀d e xs,(qA T l q).b d=O (.bi e xs)->N.b d=O (.bi e xs):=λd e xs h=>by
    simp only[qA,Ow]at h;show K d=_;simp only[K];cases v:aB l d with
    |none=>rw[v]at h;cases h
    |some e=>
     obtain⟨st,b⟩:=e;rw[v]at h;cases b with
     |bi t e xs=>exact h|cells t rs=>simp at h
   refine⟨N,λa w J1=>?_,?_,⟨rfl,cO _,λt st r I u0=>?_,λd st b o u0=>?_,λv0=>?_⟩⟩;rotate_left;rotate_left
   .rcases dR.1 (fM I)with hm|hm
    .obtain ⟨e,he,h1⟩:=dP.1 hm;simp only[bc]at h1;omega
    .exact (jW hm).2
   .have hm:=fM o;simp only[<-e0]at hm;rcases dR.1 hm with hm|hm
    .have:=(mW hm).1;omega
    .rcases dR.1 hm with hm|hm
     .have:=(mW hm).1;omega
     .exact (jW hm).2
   .exact Oy z v0
   .refine QP (s:=q) (s2:=N) (φ:=kz Mloc) rfl rfl rfl (λ_=>rfl) (λN1 P1 d' h1 k _ _=>xm v1 (xn h1) (xn k)) (λt=>MW (L0 t).1 N0) (λd x G=>?_) J1;have G:K d=O x:=G;simp only[K]at G;cases v:aB l d with
    |none=>rw[v]at G;cases G
    |some e=>
     obtain⟨st,b⟩:=e;rw[v]at G;have he:=b0 d st b v;cases b with
     |bi t e xs=>
      simp only[ax]at G;subst G;have src:∀d',(d,O d')∈Mloc->s.box d'=O (.bi t e xs)->∃d' P0,kz Mloc d=O d'/\q.b d'=O P0/\F8 q N (kz Mloc) P0 (.bi e (List.map (enc T t) xs)):=λd' hm o=>⟨d',_,kA a0 hm,(H.bi o).2,.bi e _⟩
      cases he with
      |bU d' _ _ _ hm o x0=>exact .inr (src d' hm o)|nil _ _ hm x0 J=>exact .inl ⟨kA a0 hm,e,rfl,(Q0.ty _ _ J).pos⟩
      |bi _ _ _ hm o=>exact .inr (src d hm o)|Ij _ hm o u0=>exact .inr (src d hm o)
     |cells t rs=>
      simp only[ax]at G;subst G;obtain⟨l0,g2,g3,cs,g4,g5,g6,y0⟩:=K0 d st t rs v;refine .inr ⟨d,_,g3,g4,.cells cs _ g5 λi c c2 h1 k=>?_⟩;have hi:i<rs.length:=by rw[g6,<-g5];exact (aY.1 h1).1
      exact MW (y0 i rs[i] c c2 (by simp[hi]) h1 k).1 N0
   .refine ⟨λt=>(L0 t).2,λd=>?_,λt st r I=>?_,λd st b o=>?_,?_,H.df⟩
    .show nM P E T X l (λ_=>1) (f.tick+1) (aB l d) (K d);simp only[K];cases v:aB l d with
     |none=>trivial|some e=>
      obtain⟨st,b⟩:=e;have he:=b0 d st b v;cases b with
      |bi t e xs=>
       refine⟨?_,rfl⟩;cases he with
       |bU d' _ _ _ hm o x0=>exact (H.bi o).1|nil _ _ hm x0 J=>exact J
       |bi _ _ _ hm o=>exact (H.bi o).1|Ij _ hm o u0=>exact (H.bi o).1
      |cells t rs=>
       obtain⟨l0,g2,g3,cs,g4,g5,g6,y0⟩:=K0 d st t rs v;refine⟨l0,g2,_,rfl,g6,λi r c h1 k=>?_⟩;have hi:i<cs.length:=by rw[g5];exact (aY.1 k).1
       exact(y0 i r cs[i] c h1 (by simp[hi]) k).2
    .show st<f.tick+1;rcases dR.1 (fM I)with hm|hm
     .obtain ⟨e,he,h1⟩:=dP.1 hm;simp only[bc]at h1;omega
     .have:=g0.Bj _ _ _ (jW hm).2;omega
    .show st<f.tick+1;have hm:=fM o;rw[<-e0]at hm;rcases dR.1 hm with hm|hm
     .have:=(mW hm).1;omega
     .rcases dR.1 hm with hm|hm
      .have:=(mW hm).1;omega
      .have:=g0.DU _ _ _ (jW hm).2;omega
    .have v0:Kt j.h f z=s.h:=W4 Q h0;show eY T f.m (Kt j.h f z) q.a q.u;rw[v0];have:=H.heap;rw[h0.m]at this;exact this
  .cases h
 .cases h
end
def eQ(n:Nat):F4->tl
 |.region _ d _=>iJ n d|.seq a b=>eQ n a&&eQ n b
 |.cond c a b=>wS n c&&(eQ n a&&eQ n b)|.block _ a=>eQ n a
 |.loop a=>eQ n a|.scope a=>eQ n a
 |_=>W
def ae:Ex->eA
 |.normal=>.normal|.exit id=>.exit id
 |.ret=>.ret
section
variable{P:qK}{E:cm}{U:cg}{T:dm U.C}{X:gj U}{w0:zI}{I0:aD}{n:Nat}{α:Type}{out:α}{kx:rq U->S U.C->V α}{esc:Z (Nat×Nat)}
variable(L:cw U T)
def Gb(P:qK)(E:cm)(T:dm U.C)(X:gj U)(w0:zI)(I0:aD)(n:Nat)(esc:Z (Nat×Nat))(sB:S U.C)(out:α):Prop:=((∃k,sB.m k=W)->E.dc=F)->∀(id:Nat)(a:Array JB)(hint:fC)(s:S U.C)(K:S U.C->V α)(q:St)(Q:eA->St->Prop)(Zloc:AV->St->Prop),iJ n a=W->bE sB s->Ql X esc hint a s K=O out->aX P E T X s q->(∀s' b,aX P E T X s' b->bE s s'->K s'=O out->Q .normal b)->nL P E w0 I0 n (.region id a W) Q Zloc q
include L in
theorem QR(d:bP P E T X){sB s:S U.C}(e:(∃k,sB.m k=W)->E.dc=F)(f:bE sB s){id:Nat}{c:Array JB}(g:iJ n c=W){K:S U.C->V α}(h:mE X kx esc c c.toList s K=O out){q:St}(i:aX P E T X s q)
  (l:∀s' b,aX P E T X s' b->bE s s'->K s'=O out->Q .normal b) (m:∀av b,XE P E T X s kx out av b->Zloc av b):nL P E w0 I0 n (.region id c F) Q Zloc q:=by
 intro a w o;refine pz ?_;have:=sb (w0:=w0) (I0:=I0) L d (sB:=s) (by rw[f.m];exact e) g (Q:=Q) (Zloc:=Zloc) (λb ⟨s',h1,p,r⟩=>l s' b h1 p r) m c.toList 0 s q a w (λj=>aE) (.refl s) h i o;simpa[JP]using this
def XE.up {sB s:S U.C} (a:bE sB s) {q:St} (h:XE P E T X s kx out av q):XE P E T X sB kx out av q:=by obtain⟨p,s',h1,b,c⟩:=h;exact⟨p,s',h1,a.trans b,c⟩
def pT(s:S U.C)(c:qm)(b:tl):bE s (s.xa c b):=by
 unfold S.xa;split
 .split
  .exact bh _ _
  .exact .refl s
 .exact .refl s
def aX.xa {s:S U.C} {q:St} (a:aX P E T X s q) {c:qm} {b:tl} (h:q.ev c=.val (.fl (.bool b))):aX P E T X (s.xa c b) q:=by
 unfold S.xa;split
 .rename_i t;split
  .refine a.QO ?_;have h:q.r t=.val (.fl (.bool b)):=h;rw[h];exact bg (t:=.bool) rfl
  .exact a
 .exact a
include L in
theorem mI(J:bP P E T X){sB:S U.C}(d0:(∃k,sB.m k=W)->E.dc=F)(g0:Gb P E T X w0 I0 n esc sB out)(h0:∀av d,XE P E T X sB kx out av d->Zloc av d):
  ∀(c:F4)(hint:fC)(s:S U.C)(k:Ex->S U.C->V α)(q:St)(Q:eA->St->Prop),eQ n c=W->bE sB s->gV X kx esc c hint s k=O out->aX P E T X s q->(∀e s' d,aX P E T X s' d->bE s s'->k e s'=O out->Q (ae e) d)->nL P E w0 I0 n c Q Zloc q:=by
 intro c;induction c with
 |skip=>intro hint s k q Q o t h i f;exact PJ (f .normal s q i (.refl s) h)|label l=>intro hint s k q Q o t h i f;exact NZ (f .normal s q i (.refl s) h)
 |exit id=>intro hint s k q Q o t h i f;exact PK (f (.exit id) s q i (.refl s) h)|ret=>intro hint s k q Q o t h i f;exact Tw (f .ret s q i (.refl s) h)
 |region id i0 j0=>
  intro hint s k q Q o t h i f;unfold gV at h;rw[S.A8]at h;cases j0 with
  |true=>exact g0 d0 id i0 hint s _ q Q Zloc o t h i λs' d r p g=>f .normal s' d r p g|false=>exact QR L J d0 t o h i (λs' d r p g=>f .normal s' d r p g) λav d w=>h0 av d (w.up t)
 |cond c a b N R=>
  intro hint s k q Q o t h i f;simp only[eQ,aI]at o;have e0:∀(B:tl)(u v:fC),yg (s.ev c)=O B->cond B (gV X kx esc a u (s.xa c W) k) (gV X kx esc b v (s.xa c F) k)=O out->nL P E w0 I0 n (.cond c a b) Q Zloc q:=λB u v H h=>by
   have l0:bW c=W:=by have:=o.1;unfold wS at this;simp only[aI]at this;exact this.1
   have a0:=lb (i.ev c l0) H;refine Xc o.1 a0 (λe=>?_) (λe=>?_)
   .subst e;exact N u _ k q Q o.2.1 (t.trans (pT ..)) h (i.xa a0) λe s' d r p g=>f e s' d r ((pT ..).trans p) g
   .subst e;exact R v _ k q Q o.2.2 (t.trans (pT ..)) h (i.xa a0) λe s' d r p g=>f e s' d r ((pT ..).trans p) g
  unfold gV at h;split at h
  .rename_i B u v H;exact e0 B u v H h
  .rename_i B H r0;exact e0 B .aC .aC H h
  .cases h
 |seq a b N R=>
  intro hint s k q Q o t h i f;simp only[eQ,aI]at o;have plain:∀u v:fC,gV X kx esc a u s (λe s'=>match e with
    |.normal=>gV X kx esc b v s' k|e=>k e s')=O out->nL P E w0 I0 n (.seq a b) Q Zloc q:=λu v h=>by
   refine zo λK b0=>N u s _ q _ o.1 t h i λe s' d r p g=>?_;cases e with
   |normal=>exact b0 d (R v s' k d Q o.2 (t.trans p) g r λe s2 z g1 g2 D=>f e s2 z g1 (p.trans g2) D)|exit id=>exact f (.exit id) s' d r p g
   |ret=>exact f .ret s' d r p g
  unfold gV at h;split at h
  .rename_i j u v;rw[S.A8]at h;cases A:j.sP X with
   |false=>rw[A]at h;cases h
   |true=>
    rw[A]at h;have h:gV X kx esc a u s (λe s'=>match e with
     |.normal=>match j.pN s s' with
      |some x=>gV X kx esc b v (j.load s x) k|none=>Y
     |e=>k e s')=O out:=h
    refine zo λK b0=>N u s _ q _ o.1 t h i λe s' d r p g=>?_;cases e with
    |normal=>
     simp only at g;split at g
     .rename_i x w;obtain⟨z,g1,g2,D⟩:=vF (w0:=w0) (I0:=I0) (n:=n) L J A i p r w;exact b0 d (g1.nL (R v _ k z Q o.2 (t.trans D) g g2 λe s2 z f1 f2 y=>f e s2 z f1 (D.trans f2) y))
     .cases g
    |exit id=>exact f (.exit id) s' d r p g|ret=>exact f .ret s' d r p g
  .rename_i u v;exact plain u v h
  .exact plain .aC .aC h
 |block id a G=>
  intro hint s k q Q o t h i f;unfold gV at h;refine V4 (G _ s _ q _ o t h i λe s' d r p g=>?_);cases e with
  |normal=>exact f .normal s' d r p g|exit f0=>
   simp only at g;simp only[ae,eA.uU];by_cases c0:f0=id
   .subst c0;rw[py]at g;rw[aj rfl];exact f .normal s' d r p g
   .rw[ry c0]at g;rw[ai c0];exact f (.exit f0) s' d r p g
  |ret=>exact f .ret s' d r p g
 |loop a G=>
  intro hint s k q Q o t h i f;unfold gV at h;split at h
  .rename_i j u;cases A:j.sP X with
   |false=>rw[A]at h;cases h
   |true=>
    rw[A]at h;simp only[kb,bq]at h;split at h
    .rename_i m0 n0;obtain⟨z,g1,g2,D⟩:=vF (w0:=w0) (I0:=I0) (n:=n) L J A i (.refl s) i n0;refine Hv (λm d=>∃x,aZ (λrec x=>gV X kx esc a u (j.load s x) λe s'=>match e with
      |.normal=>match j.pN s s' with
       |some x=>rec x|none=>Y
      |e=>k e s') m x=O out/\∃z,iz P E w0 I0 n d z/\aX P E T X (j.load s x) z/\bE s (j.load s x)) X.N ⟨m0,h,z,g1,g2,D⟩ λm d ⟨x,w,o0,f1,f2,y⟩=>?_
     cases m with
     |zero=>cases w
     |succ m=>
      simp only[aZ]at w;refine f1.nL (G u _ _ o0 _ o (t.trans y) w f2 λe s' I e1 C e3=>?_);cases e with
      |normal=>
       simp only at e3;split at e3
       .rename_i p0 q0;exact⟨m,gl m,p0,e3,vF (w0:=w0) (I0:=I0) (n:=n) L J A i (y.trans C) e1 q0⟩
       .cases e3
      |exit id=>exact f (.exit id) s' I e1 (y.trans C) e3|ret=>exact f .ret s' I e1 (y.trans C) e3
    .cases h
  .rename_i u;refine Hv (λm d=>∃s',aZ (λrec s=>gV X kx esc a u s λe s'=>match e with
    |.normal=>rec s'|e=>k e s') m s'=O out/\aX P E T X s' d/\bE s s') 64 ⟨s,h,i,.refl s⟩ λm d ⟨s',w,f2,y⟩=>?_
   cases m with
   |zero=>cases w
   |succ m=>
    simp only[aZ]at w;refine G u _ _ d _ o (t.trans y) w f2 λe s2 I e1 C e3=>?_;cases e with
    |normal=>exact ⟨m,gl m,s2,e3,e1,y.trans C⟩|exit id=>exact f (.exit id) s2 I e1 (y.trans C) e3
    |ret=>exact f .ret s2 I e1 (y.trans C) e3
  .cases h
 |scope a G=>
  intro hint s k q Q o t h i f;unfold gV at h;refine N6 (G _ s _ q _ o t h i λe s' d r p g=>?_);cases e with
  |normal=>exact f .normal s' d r p g|exit id=>exact f (.exit id) s' d r p g
  |ret=>exact f .ret s' d r p g
 |_=>intro hint s k q Q o t h i f;unfold gV at h;cases h
end
section
variable{P:qK}{E:cm}{U:cg}{T:dm U.C}{X:gj U}{w0:zI}{I0:aD}{n:Nat}{α:Type}{out:α}{s:S U.C}{q:St}
variable(L:cw U T)
def vG{x:AV}(h:bu u=O x):sG P q ob u (.v x):=by
 cases u<;>simp[bu]at h
 .subst h;rfl
 .subst h;rfl
def kB(n:Nat):Z ResultVar->tl
 |[]=>W|.tmp t::l=>decide (t<n)&&kB n l
 |.cell c _::l=>decide (c<n)&&kB n l
include L in
theorem Il(H:bP P E T X)(f:jj P E T X e t){a k:Nat}{u:Ty}{cs:Z (R U.C)}{v:bL U.C t}(y:s.bQ a=.dT d k)(o:s.box d=O (.cells u cs))(hv:(HG U t k cs).bind (fD t)=O v)(h:aX P E T X s q):
  r2 P q e (q.r a) (λx=>sG P q ob x (.v (enc T t v))):=by
 have p:=h.cu a;rw[y]at p;have z:=iY h p o;obtain⟨_,_,rs,A,i⟩:=h.cells o;obtain⟨r,b,hv⟩:=bind_some hv;rw[z];unfold r2;simp only[A,lY,cX,ke];unfold iG;unfold HG at b;have I:=(i.drop k).1;cases g:aV t with
 |true=>
  rw[g]at b;simp only[bf]at b;split at b
  .rename_i x J w;simp only[ax]at b;subst b;have B:v=x:=by simp only[fD,Kv,ax]at hv;exact hv.symm
   subst B;rw[kv]at w;obtain⟨_,j,m⟩:=hP L D t _ _ _ _ (hO L t) f.ok (i.drop k) w;refine⟨f.pos,by rw[f.cells];omega,?_⟩;rw[f.agg,g];simp only;refine⟨_,by rw[f.cells];exact m,?_⟩;rw[iZ v g];exact vG rfl
  .cases b
 |false=>
  rw[g]at b;simp only[bq,kv]at b;have C:bD U D t=1:=by cases t<;>first|rfl|(simp[aV]at g)
  cases n:cs.drop k with
  |nil=>rw[n]at b;cases b
  |cons K l=>rw[n]at b;simp only[List.head?_cons,ax]at b;subst b;have j:=i.drop k;rw[n]at j;obtain⟨c,ps,m,G,N⟩:=j.FL;rw[m];refine⟨f.pos,by rw[f.cells,C];simp,?_⟩;rw[f.agg,g];simp only[List.headD_cons];exact vG (dk G hv f.ok)
include L in
theorem og(f:bP P E T X):∀(l:Z ResultVar)(rs:Z RK){K:S U.C->HL U.C (rs.map RK.ty)->V α},da X F l rs s K=O out->kB n l=W->∃y,K s y=O out/\∀q,aX P E T X s q->(∀ob,gK P n q ob l (cL T rs y))/\(cL T rs y).filter eM=[]
 |[],[],K,h,a=>⟨(),h,λq b=>⟨λob=>trivial,rfl⟩⟩|[],_::_,K,h,a=>by simp[da]at h
 |.tmp t::l,[],K,h,a=>by simp[da]at h|.cell c t::l,[],K,h,a=>by simp[da]at h
 |.tmp t::l,.v ty::rs,K,h,a=>by
  simp only[kB,aI,aU]at a;simp only[da]at h;obtain⟨g,h⟩:=aA h;simp only[bq]at h;split at h
  .rename_i v hv;obtain⟨y,h,i⟩:=og f l rs h a.2;refine⟨_,h,λq b=>?_⟩;obtain⟨j,m⟩:=i q b;simp only[cL,eJ,eK];exact⟨λob=>⟨a.1,vG (dk (b.cu t) hv g),j ob⟩,by simpa[eM]using m⟩
  .cases h
 |.tmp t::l,.bU ty e::rs,K,h,a=>by simp only[da]at h;obtain⟨g,h⟩:=aA h;cases g
 |.cell c p::l,.bU ty e::rs,K,h,a=>by simp[da]at h|.cell c p::l,.v ty::rs,K,h,a=>by
  simp only[kB,aI,aU]at a;simp only[da]at h;obtain⟨o,h⟩:=aA h;have o:=di o;split at h
  .rename_i d k r;split at h
   .rename_i u cs w;split at h
    .rename_i v hv;obtain⟨y,h,i⟩:=og f l rs h a.2;refine⟨_,h,λq b=>?_⟩;obtain⟨j,m⟩:=i q b;simp only[cL,eJ,eK];exact⟨λob=>⟨a.1,Il L f (f.ty _ _ o) r w hv b,j ob⟩,by simpa[eM]using m⟩
    .cases h
   .cases h
  .cases h
include L in
theorem tS(i:bP P E T X):∀(l:Z ResultVar)(rs:Z RK)(s:S U.C){K:S U.C->HL U.C (rs.map RK.ty)->V α},((∃k,s.m k=W)->E.dc=F)->da X W l rs s K=O out->kB n l=W->∃s' y,K s' y=O out/\bE s s'/\∀q,aX P E T X s q->∃w ob,iz P E w0 I0 n q w/\aX P E T X s' w/\kX q w/\gK P n w ob l (cL T rs y)/\((cL T rs y).filter eM).length<=1
 |[],[],s,K,g,h,b=>⟨s,(),h,.refl s,λq f=>⟨q,Y,.refl q,f,.refl q,trivial,by simp[cL]⟩⟩|[],_::_,s,K,g,h,b=>by simp[da]at h
 |.tmp t::l,[],s,K,g,h,b=>by simp[da]at h|.cell c t::l,[],s,K,g,h,b=>by simp[da]at h
 |.cell c J::l,.bU ty e::rs,s,K,g,h,b=>by simp[da]at h|.tmp t::l,.v ty::rs,s,K,g,h,b=>by
  simp only[kB,aI,aU]at b;simp only[da]at h;obtain⟨z,h⟩:=aA h;simp only[bf]at h;have N:∃o,(o.val W (o.bQ t) ty λs v=>da X W l rs s λs vs=>K s (hJ ty (rs.map RK.ty) v vs))=O out/\bE s o/\∀q,aX P E T X s q->∃p,iz P E w0 I0 n q p/\aX P E T X o p/\kX q p:=by
   unfold MF at h;split at h
   .exact ML L h
   .exact ⟨s,h,.refl s,λq f=>⟨q,.refl q,f,.refl q⟩⟩
  obtain⟨o,h,B,Q⟩:=N;obtain⟨R,v,h,G,o0,p0,a0⟩:=lD (w0:=w0) (I0:=I0) (n:=n) (x:=.tmp t) L i (by rw[B.m];exact g) rfl h;obtain⟨s2,y,h,b0,c0⟩:=tS i l rs R (by rw[G.m,B.m];exact g) h b.2;refine⟨s2,_,h,(B.trans G).trans b0,λq f=>?_⟩;obtain⟨p,d0,gS,e0⟩:=Q q f;obtain⟨q1,av,hv⟩:=a0 p gS;have f0:=fW hv.Dh z;subst f0;obtain⟨g0,ob,g1,g2,g3,g4,h0⟩:=c0 q1 hv.nN;refine⟨g0,ob,(d0.trans hv.oE).trans g1,g2,(e0.trans hv.jb).trans g3,?_,?_⟩
  .simp only[cL,eJ,eK];exact⟨b.1,vG (g3 _ _ hv.CU),g4⟩
  .simp only[cL,eJ,eK];simpa[eM]using h0
 |.tmp t::l,.bU ty e::rs,s,K,g,h,b=>by
  simp only[kB,aI,aU]at b;simp only[da]at h;obtain⟨z,h⟩:=aA h;simp only[oO]at z;have m:=di z;split at h
  .rename_i xs a;obtain⟨y,h,C⟩:=og (n:=n) L i l rs h b.2;refine⟨s,_,h,.refl s,λq f=>?_⟩;obtain⟨g1,g2⟩:=C q f;have j:=f.cu t;have D:∃ob,sG P q ob (q.r t) (.bU e (xs.map (enc T ty))):=by
    split at a
    .rename_i d r;rw[r]at j;split at a
     .rename_i i0 e' j0 A;replace a:=aA a;obtain⟨H,a⟩:=a;obtain rfl:=di H;obtain⟨I,rfl⟩:=bN a;simp only[Ty.aq.injEq]at I;subst I;refine⟨O d,?_⟩;rw[eZ f j A];obtain⟨_,l0⟩:=f.bi A;exact⟨rfl,rfl,rfl,_,l0,by rw[dh aE]⟩
     .cases a
    .rename_i v r;rw[r]at j;obtain⟨b,a⟩:=aA a;simp only[ax]at a;subst a;unfold eW at b;split at b
     .refine ⟨Y,?_⟩;generalize q.r t=u at j;cases j;exact⟨rfl,rfl,(i.ty _ _ m).pos⟩
     .cases b
    .rename_i i0 j0 r;rw[r]at j;replace a:=aA a;obtain⟨H,a⟩:=a;split at a
     .simp only[ax]at a;subst a;refine⟨Y,?_⟩;generalize q.r t=u at j;cases j;exact⟨rfl,rfl,(i.ty _ _ m).pos⟩
     .cases a
    .cases a
   obtain⟨ob,D⟩:=D;refine⟨q,ob,.refl q,f,.refl q,?_,?_⟩
   .simp only[cL,eJ,eK];exact⟨b.1,D,g1 ob⟩
   .have m0:cL T (.bU ty e::rs) (hJ (.aq ty) (rs.map RK.ty) xs y)=.bU e (List.map (enc T ty) xs)::cL T rs y:=by simp only[cL,eJ,eK]
    rw[show cL T (.bU ty e::rs) _=_ from m0,zL];simp only[eM,ca,g2];exact a6 _
  .cases h
 |.cell c J::l,.v ty::rs,s,K,g,h,b=>by
  simp only[kB,aI,aU]at b;simp only[da]at h;obtain⟨m,h⟩:=aA h;have m:=di m;split at h
  .rename_i d k n0;split at h
   .rename_i u cs A;split at h
    .rename_i v hv;obtain⟨y,h,C⟩:=og (n:=n) L i l rs h b.2;refine⟨s,_,h,.refl s,λq f=>?_⟩;obtain⟨g1,g2⟩:=C q f;refine⟨q,Y,.refl q,f,.refl q,?_,?_⟩
     .simp only[cL,eJ,eK];exact⟨b.1,Il L i (i.ty _ _ m) n0 A hv f,g1 Y⟩
     .simp only[cL,eJ,eK];show(List.filter eM (RV.v _::cL T rs y)).length<=1;rw[zL];simp[eM,g2]
    .cases h
   .cases h
  .cases h
end
section
variable{P:qK}{E E':cm}{U:cg}{T:dm U.C}{X:gj U}
structure rE(P:Program)(E E':cm):Prop where
 d:nm P E=nm P E'
 h:np P E=np P E'
 it:E.it=E'.it
def lN:rE P E E.plain:=⟨rfl,rfl,rfl⟩
def rF(a:Nat->V Ob)(I0:aD):rE P E (E.dn a I0):=⟨rfl,rfl,rfl⟩
def rE.symm (h:rE P E E'):rE P E' E:=⟨h.d.symm,h.h.symm,h.it.symm⟩
def Im(h:rE P E E'){v:bL U.C t}(hv:kr P E T t v av):kr P E' T t v av:=by
 cases t with
 |fn a b=>obtain ⟨f,caps,h1,c⟩:=hv;exact ⟨f,caps,h1,by rw[<-h.d];exact c⟩|qu a b=>obtain ⟨f,caps,h1,c⟩:=hv;exact ⟨f,caps,h1,by rw[<-h.h];exact c⟩
 |jR a b=>obtain ⟨f,caps,h1,c⟩:=hv;exact ⟨f,caps,h1,by rw[<-h.h];exact c⟩|_=>exact hv
def BN(h:rE P E E'){bx:Z (Nat×Nat×B U.C)}{r:R U.C}(w:bC P E T bx g tick r u):bC P E' T bx g tick r u:=by
 induction w with
 |none q=>exact .none q|val t x q av y hv=>exact .val t x q av y (Im h hv)
 |const v z=>exact .const v z|bM t xs b=>exact .bM t xs b
 |dT d k q c=>exact .dT d k q c|whole d q c=>exact .whole d q c
 |fV d i k A t x q hv c=>exact .fV d i k A t x q hv c|dJ t x k b=>exact .dJ t x k b
 |fK rs qs p o a=>exact .fK rs qs p a|fn f caps e p o a=>exact .fn f caps e p a
 |mQ C t x b=>exact .mQ C t x b|ji k i off=>exact .ji k i off
 |kn k i j off=>exact .kn k i j off|sub d off m q c=>exact .sub d off m q c
 |sJ rs e l o s a=>exact .sJ rs e l a s|pw r av h a=>exact .pw r av a
 |gx t b=>exact .gx t b|agg n rs e l o s a=>exact .agg n rs e l a s
 |lT f rs e l o a=>exact .lT f rs e l a|it=>rw[h.it];exact .it
def jX(h:rE P E E'):∀{ps:Z Ty}{x:HL U.C ps}{b:Z AV},fy P E T ps x b->fy P E' T ps x b
 |[],x,b,c=>c|t::ts,x,b,⟨a,r,h1,d,e⟩=>⟨a,r,h1,Im h d,jX h e⟩
def QS(h:rE P E E')(d:jj P E T X e t):jj P E' T X e t:=by
 obtain⟨f,j,k,l,m,n,o,p,q,s,u,w,x,y,z,A,B,C,D,G,H⟩:=d;refine⟨f,j,k,l,m,n,o,p,q,s,u,w,x,y,z,A,B,C,?_,G,H⟩;obtain⟨i,I,J,K,L,N,Q,R⟩:=D;refine⟨i,I,J,K,L,N,Q,λrs S=>?_⟩;obtain⟨U,a0⟩:=R rs S;refine⟨U,λi r v a b=>?_⟩;rcases a0 i r v a b with c|⟨c,b0⟩
 .exact .inl λbx g tick=>BN h (c bx g tick)
 .exact .inr ⟨c,λbx g tick=>BN h (b0 bx g tick)⟩
def Oz(h:rE P E E'){c:b7 U}(k:jV P E T X f c):jV P E' T X f c:=by
 obtain⟨l,m,g⟩:=k;refine⟨l,m,?_⟩;obtain⟨ps,rs,dO,e⟩:=c;cases e with
 |pure e=>exact λx a r b d=>by rw[<-h.d];exact g x a r (jX h.symm b) d|rd e=>exact λx i a r A Vloc b j d=>by rw[<-h.h];exact g x i a r A Vloc (jX h.symm b) j d
 |st e=>exact λx i a r h' A Vloc b j d=>by rw[<-h.h];exact g x i a r h' A Vloc (jX h.symm b) j d
def pj(h:rE P E E')(b:∀i,E'.ro i=Y)(a:bP P E T X):bP P E' T X:=⟨λ_=>b,λk i _ _=>b _,λe t d=>QS h (a.ty e t d),λf c g=>Oz h (a.con f c g),a.hC,a.map,a.JL,a.JM,a.j9,a.pK,λf n fs j=>by rw[<-h.d];exact a.Kp f n fs j⟩
end
section
variable{P:qK}{E:cm}{U:cg}{T:dm U.C}{X:gj U}{w0:zI}{I0:aD}{n:Nat}
variable(L:cw U T)
def BO{q:St}(h:nL P E w0 I0 n c (λe q=>∃b,iz P E w0 I0 n q b/\Q e b) (λx q=>∃b,(∀a w I be,aL P E w0 I0 n q a w I be->aL P E w0 I0 n b a w I be)/\Zloc x b) q):nL P E w0 I0 n c Q Zloc q:=by
 intro a w i;refine wp_mono (h a w i) λe a' w' g=>?_;cases e with
 |normal=>obtain ⟨s,h1,b,d,f⟩:=g;exact ⟨b,d _ _ h1,f⟩|exit id=>obtain ⟨s,h1,b,d,f⟩:=g;exact ⟨b,d _ _ h1,f⟩
 |goto l=>obtain ⟨s,h1,b,d,f⟩:=g;exact ⟨b,d _ _ h1,f⟩|ret=>obtain ⟨s,h1,b,d,f⟩:=g;exact ⟨b,d _ _ h1,f⟩
 |panic m=>obtain⟨x,v,s,I,be,h1,⟨b,d,f⟩,j,k⟩:=g;exact⟨x,v,b,I,be,h1,f,d _ _ _ _ j,k⟩|outgrown=>exact g
def nu(g:∀i,E.ro i=Y){q:St}{a:Act}{w:zI}{I:aD}{be:Nat->V Nat}{A:Nat->V Ob}{Vloc:Nat->tl}(k:∀i,A i=Y∨A i=mj (q.a i))(l:∀i,Vloc i=F->q.u i=F)(h:aL P E w0 I0 n q a w I be):aL P E w0 I0 n {q with a:=A,u:=Vloc} a w I be:=by
 have f:∀i,A i≠Y->A i=mj (q.a i):=λi hi=>(k i).resolve_left hi;have c:∀i,A i≠Y->q.a i≠Y:=λi hi e=>by have:=f i hi;rw[e]at this;exact hi this
 refine⟨h.since,h.size,h.defers,h.cu,h.bG,h.inj,h.bU,h.sF,⟨λi x b=>?_,λi j B h1 d m o=>h.bb.inj i j B ?_ ?_ m o,λi B hi p=>h.bb.bU i B ?_ p,λi hi=>h.bb.un i (l i hi),λi x h=>(by rw[g]at h;cases h)⟩⟩
 .have b:A i=O x:=b;have:=f i (by rw[b];simp);rw[b]at this;obtain⟨z,hz,rfl⟩:=JU this.symm;obtain⟨B,h1,d⟩:=h.bb.hC i z hz;exact⟨B,h1,d.bare⟩
 .exact c i h1
 .exact c j d
 .exact c i hi
def ia{q:St}{A:Nat->V Ob}{Vloc:Nat->tl}{ob:V Nat}:∀{l:Z ResultVar}{rs:Z RV},gK P n q ob l rs->gK P n {q with a:=A,u:=Vloc} ob l rs
 |[],[],h=>h|[],_::_,h=>h
 |.tmp t::l,[],h=>h|.cell c t::l,[],h=>h
 |.tmp t::l,r::rs,⟨g,b,j⟩=>⟨g,by show sG P _ ob (q.r t) r;generalize q.r t=u at b;cases u<;>cases r<;>exact b,ia j⟩
 |.cell c t::l,r::rs,⟨g,b,j⟩=>⟨g,by
   have s:∀x,sG P q ob x r->sG P {q with a:=A,u:=Vloc} ob x r:=λx v=>by cases x<;>cases r<;>exact v
   unfold r2 at b⊢;show match q.r c with
    |.dT d gg sz i k=>match q.b d with
     |some (.cells cs)=>gg=q.g d/\iG P t (cs.drop (i*sz+k)) _|_=>False
    |_=>False
   split
   .rename_i d gg sz i k m;rw[m]at b;simp only at b;split
    .rename_i cs o;rw[o]at b;refine⟨b.1,?_⟩;have e:=b.2;unfold iG at e⊢;refine⟨e.1,e.2.1,?_⟩;have f:=e.2.2;split at f
     .obtain ⟨xs,e1,w⟩:=f;exact ⟨xs,e1,s _ w⟩
     .exact s _ f
     .exact f
    .rename_i p;split at b
     .rename_i cs o;exact (p cs o).elim
     .exact b
   .rename_i p;split at b
    .rename_i d gg sz i k m;exact (p _ _ _ _ _ m).elim
    .exact b,ia j⟩
def Io{bx:Z (Nat×Nat×B U.C)}{ty:Ty}{v:bL U.C ty}{a:AV}(h:kr P E T ty v a):bC P E T bx g tick (ZA ty v) (.val a):=by
 cases ty with
 |cell t=>obtain⟨b,rfl⟩:=h;have:=bC.dJ (P:=P) (E:=E) (T:=T) (bx:=bx) (g:=g) (tick:=tick) t v 0 b;rw[uF]at this;exact this|jR p r=>
  obtain⟨f,caps,rfl,c⟩:=h;exact .pw _ _ (.val (.qu p r) v _ (.fn f caps) rfl ⟨f,caps,rfl,c⟩)
 |_=>exact .val _ v _ a rfl h
def vH{bx:Z (Nat×Nat×B U.C)}{g:Nat->Nat}{tick:Nat}:∀(ps:Z Ty)(i:Nat)(x:HL U.C ps)(b:Z AV),fy P E T ps x b->b.length=ps.length/\(∀t st r,aB (mq ps i x) t=O (st,r)->st=0)/\∀t,bC P E T bx g tick (match aB (mq ps i x) t with|some e=>e.2|none=>.none) (if i<=t then((b.map cy.val)[t-i]?).getD .none else .none)
 |[],i,x,b,h=>by have:b=[]:=h;subst this;exact⟨rfl,λt st r h=>by simp[mq,aB]at h,λt=>.none _⟩|ty::ps,i,x,b,⟨a,r,h1,d,f⟩=>by
  subst h1;obtain⟨j,g2,k⟩:=vH (bx:=bx) (g:=g) (tick:=tick) ps (i+1) (wC ty ps x) r f;refine⟨by simp[j],λt st l h=>?_,λt=>?_⟩
  .simp only[mq,aQ]at h;split at h
   .simp only[ax,bc]at h;exact h.1.symm
   .exact g2 t st l h
  .simp only[mq,aQ];by_cases e:i=t
   .subst e;simp only[ca,a6,wH,dy,gT,eP];exact Io d
   .simp only[e,cG];have:=k t;by_cases c:i<=t
    .rw[aj M]at this;rw[aj c];have m:t-i=(t-(i+1))+1:=M;rw[m];simp only[dy,L9];exact this
    .rw[ai M]at this;rw[ai c];exact this
include L in
theorem T6{rs:Z RK}{G:HL U.C ps->V (h7 U dO (HL U.C (rs.map RK.ty)))}(c0:bP P E T X)(d0:P.funcs[f]?=O fn)(e0:(fn.name== "runtime.NumGoroutine")=F)(f0:fn.body=O c)(g0:ps.length<=fn.ntmps)
  (i0:eQ fn.ntmps c=W) (j0:kB fn.ntmps fn.results.toList=W) (h0:U.C 0) (l0:∀(w0:zI)(I0:aD)(sB:S U.C)(r:h7 U dO (HL U.C (rs.map RK.ty))),Gb P E.plain T X w0 I0 fn.ntmps esc sB r)
  (hF:∀x,DT X ps rs dO esc fn.results.toList c hint x h0=G x):nY P E T f ps rs dO (.pure G):=by
 intro x H r m0 A;rw[<-hF x]at A;have J:bP P E.plain T X:=pj lN (λ_=>rfl) c0;have B:=vH (bx:=[]) (g:=λ_=>0) (tick:=1) ps 0 x H (jX lN m0);refine ye d0 e0 f0 (by rw[B.1];exact g0) λw0 I0=>BO ?_;unfold DT at A;have n0:aX P E.plain T X ({r:=mq ps 0 x,b:=[],tick:=1,h:=h0,m:=λ_=>F}:S U.C) (entry H):=by
  refine⟨λt=>?_,λd=>trivial,λt st y C=>?_,(λd st y C=>by cases C),(λk _ o0=>by cases o0),rfl⟩
  .have:=B.2.2 t;rw[S.gA];rw[aj (dS _),oA]at this;simp only;cases K:aB (mq ps 0 x) t with
   |none=>rw[K]at this;exact this|some e=>rw[K]at this;exact this
  .have:=B.2.1 t st y C;subst this;exact Nat.zero_lt_one
 refine mI L J (λ⟨k,o⟩=>by cases o) (l0 w0 I0 _ r) (λav q p0=>?_) c hint _ _ _ _ i0 (.refl _) A n0 λe s' q q0 r0 j=>?_
 .obtain ⟨p,s',g1,g2,g3,g4,rfl⟩:=p0;refine⟨{q with a:=qH,u:=km},λa w I be l=>nu (λ_=>rfl) (λi=>.inl rfl) (λi hi=>by cases hi) l,?_⟩;have g3:Dc dO p=O r:=g3;unfold Dc at g3;cases dO with
  |none=>cases g3
  |some D=>
   obtain⟨v0,t⟩:=D;simp only at g3;obtain⟨v,g3⟩:=aA g3;have v:=bV v;split at g3
   .rename_i e N;obtain⟨Q,rfl⟩:=bN N;obtain⟨x0,D,y0⟩:=p;simp only at v Q N;subst v Q;obtain rfl:=cr g3;exact⟨rfl,g1.df,rfl,rfl⟩
   .cases g3
 .have R:da X W fn.results.toList rs s' (λs y=>O (wZ dO y))=O r->∀e',(e'=eA.normal∨e'=eA.ret)->∃z,iz P E.plain w0 I0 fn.ntmps q z/\Xa P fn (pc T rs dO r) e' z:=by
   intro j e' s0;obtain⟨s2,y,a0,A0,t0⟩:=tS (w0:=w0) (I0:=I0) (n:=fn.ntmps) L J _ rs s' (λ⟨k,o⟩=>by rw[r0.m]at o;cases o) j j0;obtain⟨z,ob,m1,m2,m3,m4,b0⟩:=t0 q q0;simp only[ax]at a0;have u0:pc T rs dO r=.ret (cL T rs y):=by
    subst a0;cases dO with
    |none=>rfl|some D=>rfl
   refine⟨{z with a:=qH,u:=km},λa w l=>?_,?_⟩
   .obtain ⟨I,be,l⟩:=m1 a w l;exact⟨I,be,nu (λ_=>rfl) (λi=>.inl rfl) (λi hi=>by cases hi) l⟩
   .rw[u0];rcases s0 with rfl|rfl
    .exact ⟨b0,⟨m2.df,rfl,rfl⟩,ob,ia m4⟩
    .exact ⟨b0,⟨m2.df,rfl,rfl⟩,ob,ia m4⟩
  cases e with
  |normal=>exact R j _ (.inl rfl)|exit id=>cases j
  |ret=>exact R j _ (.inr rfl)
def aK(T:dm U.C)(h:U.C 0)(k j:Nat):V Ob:=if k<U.nk then match(U.get k h)[j]? with
 |some x=>Bi T (U.ak k) x|none=>Y
 else Y
def uK(U:cg)(h:U.C 0)(k j:Nat):tl:=if k<U.nk then((U.get k h)[j]?).isSome else W
def Tm(T:dm U.C)(h:U.C 0)(i:Nat):V Ob:=aK T h (i%1000) (i/1000)
def T7(U:cg)(h:U.C 0)(i:Nat):tl:=uK U h (i%1000) (i/1000)
include L in
theorem T8(h:U.C 0)(m:Nat->tl):eY T m h (Tm T h) (T7 U h):=λk a _ i=>by
 have b:dI k i%1000=k:=by have:=L.nk;unfold dI;omega
 have c:dI k i/1000=i:=by have:=L.nk;unfold dI;omega
 have d:Tm T h (dI k i)=aK T h k i:=by unfold Tm;rw[b,c]
 have e:T7 U h (dI k i)=uK U h k i:=by unfold T7;rw[b,c]
 rw[d,e];unfold aK uK;rw[aj a,aj a];cases(U.get k h)[i]? with
 |none=>exact ⟨rfl,rfl⟩|some x=>exact tJ T _ x
def MX{h:U.C 0}{q:St}(d:eY T bM h q.a q.u):(∀i,Tm T h i=Y∨Tm T h i=mj (q.a i))/\∀i,T7 U h i=F->q.u i=F:=by
 have hi:∀i,i=dI (i%1000) (i/1000):=TP;refine⟨λi=>?_,λi b=>?_⟩
 .unfold Tm aK;by_cases a:i%1000<U.nk
  .rw[aj a];have:=d _ a rfl (i/1000);cases c:(U.get (i%1000) h)[i/1000]? with
   |none=>exact .inl rfl|some x=>rw[c]at this;simp only at this⊢;rw[<-hi i]at this;exact .inr this.symm
  .rw[ai a];exact .inl rfl
 .unfold T7 uK at b;by_cases a:i%1000<U.nk
  .rw[aj a]at b;have:=d _ a rfl (i/1000);cases c:(U.get (i%1000) h)[i/1000]? with
   |none=>rw[c]at this;rw[<-hi i]at this;exact this.2|some x=>rw[c]at b;cases b
  .rw[ai a]at b;cases b
abbrev XD(U:cg)(β:Type):=(rq U->S U.C->V β)->S U.C->(Ex->S U.C->V β)->V β
noncomputable def MY (ps:Z Ty) (rs:Z RK) (p:V (JA×Ty)) (X:gj U) (a:Z ResultVar) (ex:XD U (h7 U p (HL U.C (rs.map RK.ty))×U.C 0)) (x:HL U.C ps) (h:U.C 0):V (h7 U p (HL U.C (rs.map RK.ty))×U.C 0):=
 ex (λq s=>HQ s.h (Dc p q)) {r:=mq ps 0 x,b:=[],tick:=1,h:=h} λe s=>match e with
  |.exit _=>Y|_=>da X W a rs s λs y=>O (wZ p y,s.h)
include L in
theorem Gc{rs:Z RK}{ex:XD U (h7 U dO (HL U.C (rs.map RK.ty))×U.C 0)}{N:HL U.C ps->U.C 0->V (h7 U dO (HL U.C (rs.map RK.ty))×U.C 0)}(g0:bP P E T X)(h0:P.funcs[f]?=O fn)(i0:(fn.name== "runtime.NumGoroutine")=F)(j0:fn.body=O c)(l0:ps.length<=fn.ntmps)
  (m0:kB fn.ntmps fn.results.toList=W) (n0:∀(A:Nat->V Ob)(o:aD)(w0:zI)(I0:aD)(sB:S U.C)(r:h7 U dO (HL U.C (rs.map RK.ty))×U.C 0)(kx:rq U->S U.C->V (h7 U dO (HL U.C (rs.map RK.ty))×U.C 0))(Zloc:AV->St->Prop),bP P (E.dn A o) T X->(∀av i,XE P (E.dn A o) T X sB kx r av i->Zloc av i)->∀(s:S U.C)(k:Ex->S U.C->V (h7 U dO (HL U.C (rs.map RK.ty))×U.C 0))(q:St)(Q:eA->St->Prop),bE sB s->ex kx s k=O r->aX P (E.dn A o) T X s q->(∀e s' i,aX P (E.dn A o) T X s' i->bE s s'->k e s'=O r->Q (ae e) i)->nL P (E.dn A o) w0 I0 fn.ntmps c Q Zloc q)
  (hF:∀x h,MY ps rs dO X fn.results.toList ex x h=N x h):nY P E T f ps rs dO (.st N):=by
 intro x h R r h' A Vloc o0 p0 C;rw[<-hF x h]at C;have D:=vH (bx:=[]) (g:=λ_=>0) (tick:=1) ps 0 x R o0;refine⟨Tm T h',T7 U h',T8 L h' _,Fc h0 i0 j0 (by rw[D.1];exact l0) λw0 I0=>BO ?_⟩;have a0:bP P (E.dn A I0) T X:=pj (rF A I0) (λ_=>rfl) g0;unfold MY at C;have q0:aX P (E.dn A I0) T X ({r:=mq ps 0 x,b:=[],tick:=1,h:=h}:S U.C) (tx R A Vloc):=by
  refine⟨λt=>?_,λd=>trivial,λt st y G=>?_,(λd st y G=>by cases G),p0,rfl⟩
  .have:=BN (rF (P:=P) (E:=E) A I0) (D.2.2 t);rw[S.gA];rw[aj (dS _),oA]at this;simp only;cases b0:aB (mq ps 0 x) t with
   |none=>rw[b0]at this;exact this|some e=>rw[b0]at this;exact this
  .have:=D.2.1 t st y G;subst this;exact Nat.zero_lt_one
 refine n0 A I0 w0 I0 _ (r,h') _ _ a0 (λav i r0=>?_) _ _ _ _ (.refl _) C q0 λe s' i s0 t0 v=>?_
 .obtain ⟨p,s',g1,g2,g3,g4,rfl⟩:=r0;have g3:HQ s'.h (Dc dO p)=O (r,h'):=g3;unfold HQ at g3;split at g3
  .rename_i B0 j;simp only[ax,bc]at g3;obtain⟨rfl,rfl⟩:=g3;have H:eY T bM s'.h i.a i.u:=by have:=g1.heap;rw[g2.m]at this;exact this
   obtain⟨l,J⟩:=MX H;refine⟨{i with a:=Tm T s'.h,u:=T7 U s'.h},λa w I be z=>nu (λ_=>rfl) l J z,?_⟩;unfold Dc at j;cases dO with
   |none=>cases j
   |some K=>
    obtain⟨C0,t⟩:=K;simp only at j;obtain⟨B,j⟩:=aA j;have B:=bV B;split at j
    .rename_i e c0;obtain⟨d0,rfl⟩:=bN c0;obtain⟨D0,K,E0⟩:=p;simp only at B d0 c0;subst B d0;obtain rfl:=cr j;exact⟨rfl,g1.df,rfl,rfl⟩
    .cases j
  .cases g3
 .have e0:da X W fn.results.toList rs s' (λs y=>O (wZ dO y,s.h))=O (r,h')->∀e',(e'=eA.normal∨e'=eA.ret)->∃m,iz P (E.dn A I0) w0 I0 fn.ntmps i m/\PO P fn (pc T rs dO r) (Tm T h') (T7 U h') e' m:=by
   intro v e' u0;obtain⟨s2,y,l,J,v0⟩:=tS (w0:=w0) (I0:=I0) (n:=fn.ntmps) L a0 _ rs s' (λ_=>rfl) v m0;obtain⟨m,ob,m1,m2,m3,m4,f0⟩:=v0 i s0;simp only[ax,bc]at l;obtain⟨l,rfl⟩:=l;have H:eY T bM s2.h m.a m.u:=by have:=m2.heap;rw[J.m,t0.m]at this;exact this
   obtain⟨x0,y0⟩:=MX H;have A0:pc T rs dO r=.ret (cL T rs y):=by
    subst l;cases dO with
    |none=>rfl|some K=>rfl
   refine⟨{m with a:=Tm T s2.h,u:=T7 U s2.h},λa w z=>?_,?_⟩
   .obtain ⟨I,be,z⟩:=m1 a w z;exact⟨I,be,nu (λ_=>rfl) x0 y0 z⟩
   .rw[A0];rcases u0 with rfl|rfl
    .exact ⟨f0,⟨m2.df,rfl,rfl⟩,ob,ia m4⟩
    .exact ⟨f0,⟨m2.df,rfl,rfl⟩,ob,ia m4⟩
  cases e with
  |normal=>exact e0 v _ (.inl rfl)|exit id=>cases v
  |ret=>exact e0 v _ (.inr rfl)
include L in
theorem ZH{rs:Z RK}{b:HL U.C ps->U.C 0->V (h7 U dO (HL U.C (rs.map RK.ty))×U.C 0)}(d:bP P E T X)(e:P.funcs[f]?=O fn)(g:(fn.name== "runtime.NumGoroutine")=F)(i:fn.body=O c)(j:ps.length<=fn.ntmps)
  (l:eQ fn.ntmps c=W) (m:kB fn.ntmps fn.results.toList=W) (n:∀(A:Nat->V Ob)(a:aD)(w0:zI)(I0:aD)(sB:S U.C)(r:h7 U dO (HL U.C (rs.map RK.ty))×U.C 0),Gb P (E.dn A a) T X w0 I0 fn.ntmps esc sB r)
  (hF:∀x h,vr X ps rs dO esc fn.results.toList c hint x h=b x h):nY P E T f ps rs dO (.st b):=
 Gc L (ex:=λkx=>gV X kx esc c hint) d e g i j m (λA a w0 I0 sB r kx Zloc o p s k q Q t h u v=>mI L o (λ_=>rfl) (n A a w0 I0 sB r) p c hint s k q Q l t h u v) hF
end
end Go.X
namespace Go.Ev
open Go
section
variable{P:qK}{E:cm}{w0:zI}{I0:aD}{n:Nat}{b8:Array JB}{Q:eA->St->Prop}{Zloc:AV->St->Prop}
def still(b8:Array JB)(a:Array tl):Nat:=((List.range b8.size).filter λi=>a.getD i W==F).length
def Ei{α:Type}{p d:α->tl}:∀{l:Z α}{x:α},x∈l->p x=W->d x=F->(∀y,d y=W->p y=W)->(l.filter d).length<(l.filter p).length
 |a::l,x,e,h1,h,f=>by
  have i:∀l:Z α,(l.filter d).length<=(l.filter p).length:=λl=>by
   induction l with
   |nil=>exact a6 _|cons b l g=>
    simp only[zL];by_cases c:d b=W
    .simp only[c,f b c,ca,ec];omega
    .simp only[c,iA,cG];split
     .simp only[ec];omega
     .exact g
  simp only[zL];rcases cT.1 e with rfl|e
  .simp only[h1,h,ca,iA,cG,ec];have:=i l;omega
  .have g:=Ei e h1 h f;by_cases c:d a=W
   .simp only[c,f a c,ca,ec];omega
   .simp only[c,iA,cG];split
    .simp only[ec];omega
    .exact g
def Ej{a:Array tl}{i:Nat}(hi:i∈Region.ready .any b8 a):still b8 (a.setIfInBounds i W)<still b8 a:=by
 obtain⟨b,o,e,_⟩:=mem_ready.1 hi;have f:i<b8.size:=(h4.1 e).1;refine Ei (x:=i) (px.2 f) (by rw[b];rfl) ?_ λy c=>?_
 .rcases tf i a.size with h'|h'
  .simp[h']
  .simp[G8 h']at b
 .by_cases d:i=y
  .subst d;simp[b]
  .rw[getD_set_ne W d]at c;exact c
def Gd(d:iJ n b8=W)(J:Array tl->St->Prop)
  (step:∀b s,J b s->∀i∈Region.ready .any b8 b,∃o,b8[i]?=O o/\((jz b8 o s=O W/\dE P E w0 I0 n o s λs'=>J (b.setIfInBounds i W) s')∨(jz b8 o s=O F/\J (b.setIfInBounds i W) (s.put o.dst (.fK [])))))
  (e:∀b s,J b s->Region.ready .any b8 b=[]->Q .normal s):∀(bT:Nat)(b:Array tl)(s:St)(a:Act)(w:zI),still b8 b<=bT->J b s->gi P E w0 I0 n s a w->wpAny P .any b8 (wQ P E w0 I0 n Q Zloc) bT b a w
 |0,b,s,a,w,l,h,c=>by
  have h0:Region.ready .any b8 b=[]:=by apply List.eq_nil_iff_forall_not_mem.2;intro i hi;have:=Ej hi;omega
  exact⟨h0,s,c,e b s h h0⟩
 |bT+1,b,s,a,w,l,h,c=>by
  refine⟨λh0=>⟨s,c,e b s h h0⟩,λi hi=>?_⟩;obtain⟨o,g,m⟩:=step b s h i hi;have k:=jP g;have y:=Ej hi;unfold wpOp;simp only[g];rcases m with⟨f,p⟩|⟨f,q⟩
  .rw[M0 d k f c];simp only[ca];refine .inl (lZ (λa' w' ⟨s',t,u⟩=>Gd d J step e bT _ s' a' w' M u t) (p a w c _))
  .rw[M0 d k f c];simp only[iA,cG];obtain⟨I,be,v⟩:=c;exact Gd d J step e bT _ _ _ w M q ⟨I,be,v.put o.dst (r:=.fK []) ⟨#[],rfl,rfl,λj r x=>by simp at x⟩⟩
theorem MZ{id:Nat}{s:St}(d:P.follows .mixedOrders=W)(e:iJ n b8=W)(J:Array tl->St->Prop)
  (step:∀b s,J b s->∀i∈Region.ready .any b8 b,∃o,b8[i]?=O o/\((jz b8 o s=O W/\dE P E w0 I0 n o s λs'=>J (b.setIfInBounds i W) s')∨(jz b8 o s=O F/\J (b.setIfInBounds i W) (s.put o.dst (.fK [])))))
  (f:∀b s,J b s->Region.ready .any b8 b=[]->Q .normal s) (h:J (Array.replicate b8.size F) s):nL P E w0 I0 n (.region id b8 W) Q Zloc s:=by
 intro a w c;refine wp_region_any d ?_;have g:gi P E w0 I0 n s a {w with drawn:=w.drawn+1}:=by obtain⟨I,be,c⟩:=c;exact⟨I,be,c.grow rfl rfl rfl (a6 _) (λ_ _=>rfl)⟩
 refine Gd e J step f _ _ s a _ ?_ h g;unfold still;exact fk (Hi _ _) aE
end
end Go.Ev
namespace Go.X
open Go Go.Ev
variable{j tick t d i tick':Nat}{o:JB}{g:Nat->Nat}{listed:Array tl}{u:cy}{C:Nat->Type}
section
variable{P:qK}{E:cm}{U:cg}{T:dm U.C}{X:gj U}{s s':S U.C}{q:St}
def jY{β:Type}(l:Z (Nat×Nat×β)):∀(ts:Z Nat)(t:Nat),aB (S.only.tF l ts) t=if t∈ts then aB l t else Y
 |[],t=>by simp[S.only.tF,aB]|b::ts,t=>by
  simp only[S.only.tF];cases h:aB l b with
  |none=>
   simp only;rw[jY l ts t];by_cases e:t=b
   .subst e;simp[h]
   .simp[e]
  |some x=>
   obtain⟨a,x⟩:=x;simp only[aQ];by_cases e:b=t
   .subst e;simp[h]
   .rw[ai e,jY l ts t];simp[dz e]
def dZ{C:Nat->Type}{tick:Nat}:∀{rs:Z (R C)},la tick rs=W↔∀r∈rs,ed tick r=W
 |[]=>by simp[la]|r::rs=>by simp[la,dZ (rs:=rs)]
def bC.xo {bx:Z (Nat×Nat×B U.C)} {r:R U.C} (h:bC P E T bx g tick r u) (hv:ed tick' r=W):bC P E T bx g tick' r u:=by
 induction h with
 |fV d i k A t x _ z e=>exact .fV d i k A t x _ (by simpa[ed]using hv) e|fK rs qs c s b=>simp only[ed]at hv;exact .fK rs qs c λi r q a w=>b i r q a w (dZ.1 hv r (bF a))
 |fn f caps l c s b=>simp only[ed]at hv;exact .fn f caps l c λi r av a o=>b i r av a o (dZ.1 hv r (bF a))|none=>exact .none _|val t x _ av w z=>exact .val t x _ av w z
 |const v C=>exact .const v C|bM t xs p=>exact .bM t xs p
 |dT d k _ e=>exact .dT d k _ e|whole d _ e=>exact .whole d _ e
 |dJ t x k p=>exact .dJ t x k p|mQ D t x p=>exact .mQ D t x p
 |ji k i off=>exact .ji k i off|kn k i j off=>exact .kn k i j off
 |sub d off m q e=>exact .sub d off m q e|sJ rs l c s y b=>simp only[ed]at hv;exact .sJ rs l c (λi r av a o=>b i r av a o (dZ.1 hv r (bF a))) y
 |pw r av h b=>simp only[ed]at hv;exact .pw r av (b hv)|gx t p=>exact .gx t p|it=>exact .it
 |lT f rs l c s b=>simp only[ed]at hv;exact .lT f rs l c (λi r av a o=>b i r av a o (dZ.1 hv r (bF a)))|agg n rs l c s y b=>simp only[ed]at hv;exact .agg n rs l c (λi r av a o=>b i r av a o (dZ.1 hv r (bF a))) y
def bC.ed {bx:Z (Nat×Nat×B U.C)} {r:R U.C} (h:bC P E T bx g tick r u):Go.X.ed tick r=W:=by
 induction h with
 |fV d i k p t x _ m q=>simpa[Go.X.ed]using m|fK rs qs b l a=>
  simp only[Go.X.ed];refine dZ.2 λr c=>?_;obtain⟨i,hi⟩:=kc.1 c;have e:i<qs.length:=by rw[<-b];exact (aY.1 hi).1
  exact a i r _ hi (bS e)
 |fn f caps j b l a=>
  simp only[Go.X.ed];refine dZ.2 λr c=>?_;obtain⟨i,hi⟩:=kc.1 c;have e:i<j.length:=by rw[<-b];exact (aY.1 hi).1
  exact a i r _ hi (bS e)
 |sJ rs j b l o a=>
  simp only[Go.X.ed];refine dZ.2 λr c=>?_;obtain⟨i,hi⟩:=kc.1 c;have e:i<j.length:=by rw[<-b];exact (aY.1 hi).1
  exact a i r _ hi (bS e)
 |pw r av h a=>simpa[Go.X.ed]using a|it=>rfl
 |lT f rs j b l a=>
  simp only[Go.X.ed];refine dZ.2 λr c=>?_;obtain⟨i,hi⟩:=kc.1 c;have e:i<j.length:=by rw[<-b];exact (aY.1 hi).1
  exact a i r _ hi (bS e)
 |agg n rs j b l o a=>
  simp only[Go.X.ed];refine dZ.2 λr c=>?_;obtain⟨i,hi⟩:=kc.1 c;have e:i<j.length:=by rw[<-b];exact (aY.1 hi).1
  exact a i r _ hi (bS e)
 |_=>rfl
def nM.FE {bx:Z (Nat×Nat×B U.C)} {st:Nat} {x:B U.C} {u:V Bx} (h:nM P E T X bx g tick (O (st,x)) u):x.FE tick=W:=by
 cases x with
 |bi t e xs=>rfl|cells t rs=>
  obtain⟨_,_,cs,_,a,b⟩:=h;refine dZ.2 λr c=>?_;obtain⟨i,hi⟩:=kc.1 c;have d:i<cs.length:=by rw[<-a];exact (aY.1 hi).1
  exact(b i r _ hi (bS d)).ed
mutual
def hV{C:Nat->Type}{t b:Nat}(h:t<=b):∀{r:R C},ed t r=W->ed b r=W
 |.fV _ _ _ c _ _,a=>by simp only[ed,fQ]at a⊢;omega|.fK rs,a=>by simp only[ed]at a⊢;exact iO h a
 |.fn _ rs,a=>by simp only[ed]at a⊢;exact iO h a|.none,_=>rfl
 |.val _ _,_=>rfl|.const _,_=>rfl
 |.bM _ _,_=>rfl|.dT _ _,_=>rfl
 |.whole _,_=>rfl|.dJ _ _ _,_=>rfl
 |.mQ _ _ _,_=>rfl|.ji _ _ _,_=>rfl
 |.kn _ _ _ _,_=>rfl|.sub _ _ _,_=>rfl
 |.sJ rs,a=>by simp only[ed]at a⊢;exact iO h a|.pw r,a=>by simp only[ed]at a⊢;exact hV h a
 |.gx _,_=>rfl|.it,_=>rfl
 |.lT _ rs,a=>by simp only[ed]at a⊢;exact iO h a|.agg _ rs,a=>by simp only[ed]at a⊢;exact iO h a
def iO{C:Nat->Type}{t b:Nat}(h:t<=b):∀{rs:Z (R C)},la t rs=W->la b rs=W
 |[],_=>rfl|r::rs,a=>by simp only[la,aI]at a⊢;exact⟨hV h a.1,iO h a.2⟩
end
def B.nv {a:Nat} (h:t<=a) {x:B C} (b:x.FE t=W):x.FE a=W:=by
 cases x with
 |bi _ _ _=>rfl|cells u rs=>exact iO h b
def pU{β:Type}:∀(a:Z Nat)(l:Z (Nat×Nat×β))(t:Nat),aB (F3 l a) t=if t∈a then Y else aB l t
 |[],l,t=>by simp[F3]|d::a,l,t=>by
  simp only[F3];rw[pU a,aN];by_cases e:t∈a
  .simp[e]
  .by_cases e2:d=t
   .subst e2;simp[e]
   .simp[e,e2,dz e2]
def yy(L:cw U T):∀(a:Z Nat)(h b:U.C 0)(k:Nat),k<U.nk->U.get k (tG U h b a)=if k∈a then U.get k b else U.get k h
 |[],h,b,k,_=>by simp[tG]|k'::a,h,b,k,d=>by
  simp only[tG];rw[yy L a _ _ _ d];by_cases e:k∈a
  .simp[e]
  .by_cases c:k=k'
   .subst c;simp[e,L.zr k _ _ d]
   .simp[e,c,L.r6 k' k h _ c]
def BP(L:cw U T)(a:Z Nat)(h b:U.C 0)(k:Nat):U.get k (tG U h b a)=if k∈a then U.get k b else U.get k h:=by
 by_cases c:k<U.nk
 .exact yy L a h b k c
 .split<;>exact L.FJ _ _ _ M
end
section
variable{β:Type}
def gB(D wr:Nat->tl)(v:Nat->β)(b0:β):Nat->β
 |0=>b0|j+1=>bif D j&&wr j then v j else gB D wr v b0 j
variable{D D' wr:Nat->tl}{v:Nat->β}{b0:β}
def gC:∀{N:Nat},(∀i,i<N->wr i=W->D i=D' i)->gB D wr v b0 N=gB D' wr v b0 N
 |0,_=>rfl|j+1,h=>by
  simp only[gB];rw[gC (N:=j) λi hi a=>h i M a];cases a:wr j with
  |false=>simp|true=>rw[h j M a]
def vI{j:Nat}:∀{N:Nat},j<=N->gB (λi=>decide (i<j)) wr v b0 N=gB (λ_=>W) wr v b0 j
 |0,h=>by have:j=0:=M;subst this;rfl|N+1,h=>by
  by_cases a:j=N+1
  .subst a;exact gC λi hi _=>by simp[hi]
  .simp only[gB];have:decide (N<j)=F:=cM;rw[this];simp only[Bool.false_and,bq];exact vI M
def sc{j:Nat}(b:∀i,i≠j->D' i=D i)(c:D' j=W):∀{N:Nat},j<N->(wr j=W->∀i,j<i->i<N->D i=W->wr i=W->False)->gB D' wr v b0 N=if wr j=W then v j else gB D wr v b0 N
 |N+1,l,d=>by
  by_cases e:j=N
  .subst e;simp only[gB,c,oO];cases a:wr j with
   |true=>simp|false=>simp;exact gC λi hi _=>b i M
  .have f:=sc b c (N:=N) M λa i g m=>d a i g M;simp only[gB,b N (dz e)];cases h:D N with
   |false=>simpa using f|true=>
    cases k:wr N with
    |false=>simpa using f|true=>
     cases a:wr j with
     |false=>simp|true=>exact (d a N M M h k).elim
def jZ:∀{N:Nat},gB D wr v b0 N=b0∨∃i,i<N/\D i=W/\wr i=W/\gB D wr v b0 N=v i
 |0=>.inl rfl|N+1=>by
  simp only[gB];cases h:D N&&wr N with
  |true=>simp only[aI]at h;exact .inr ⟨N,M,h.1,h.2,rfl⟩|false=>
   simp only[bq];rcases jZ (N:=N)with h|⟨i,h1,a⟩
   .exact .inl h
   .exact .inr ⟨i,M,a⟩
end
structure wE(C:Nat->Type)where
 dst:Option Nat
 ds:List Nat
 f:Fp
 s1:S C
 tT:List Nat
def wE.val {C:Nat->Type} (c:wE C) (t:Nat):R C:=if c.dst=O t then c.s1.bQ t else .none
section
variable{U:cg}{T:dm U.C}
def S.QT (s:S U.C) (c:wE U.C):S U.C:=
 {r:=match c.dst with
   |some d=>(d,0,c.s1.bQ d)::kp 0 c.tT s.r|none=>kp 0 c.tT s.r
  b:=bif c.f.w then c.s1.b++F3 s.b c.f.bs else s.b,tick:=s.tick,h:=bif c.f.w then tG U s.h c.s1.h c.f.ks else s.h,hv:=0,m:=s.m}
def sig(rc:Nat->wE U.C)(D:Nat->tl)(s0:S U.C):Nat->S U.C
 |0=>s0|j+1=>bif D j then(sig rc D s0 j).QT (rc j)else sig rc D s0 j
variable{rc:Nat->wE U.C}{D:Nat->tl}{s0:S U.C}
def BQ:∀N,(sig rc D s0 N).tick=s0.tick
 |0=>rfl|N+1=>by
  simp only[sig];cases D N with
  |true=>exact BQ N|false=>exact BQ N
def QU:∀N,(sig rc D s0 N).m=s0.m
 |0=>rfl|N+1=>by
  simp only[sig];cases D N with
  |true=>exact QU N|false=>exact QU N
def uA(rc:Nat->wE U.C)(t i:Nat):tl:=decide ((rc i).dst=O t)||ig t (rc i).tT
def fg{C:Nat->Type}(tick:Nat):∀(ts:Z Nat)(l:Z (Nat×Nat×R C))(t:Nat),aB (kp tick ts l) t=if t∈ts then O (tick,.none)else aB l t
 |[],l,t=>by simp[kp]|a::ts,l,t=>by
  simp only[kp,aQ];by_cases e:a=t
  .subst e;simp
  .rw[ai e,fg tick ts l t];simp[dz e]
def BR(rc:Nat->wE U.C)(d i:Nat):tl:=(rc i).f.w&&ig d (rc i).f.bs
def Ip(rc:Nat->wE U.C)(k i:Nat):tl:=(rc i).f.w&&ig k (rc i).f.ks
def Iq(t:Nat):∀N,(sig rc D s0 N).bQ t=gB D (uA rc t) (λi=>(rc i).val t) (s0.bQ t) N
 |0=>rfl|N+1=>by
  simp only[sig,gB];rw[<-Iq t N];cases g:D N with
  |false=>simp|true=>
   simp only[bf,oO];cases b:(rc N).dst with
   |none=>
    by_cases a:t∈(rc N).tT
    .have:uA rc t N=W:=by simp[uA,cf.2 a]
     rw[this];unfold S.bQ S.QT wE.val;simp[b,fg,a]
    .have c:ig t (rc N).tT=F:=by
      cases f:ig t (rc N).tT with
      |false=>rfl|true=>exact (a (cf.1 f)).elim
     have:uA rc t N=F:=by simp[uA,b,c]
     rw[this];simp only[bq];unfold S.bQ S.QT;simp[b,fg,a]
   |some d=>
    by_cases e:d=t
    .subst e;have:uA rc d N=W:=by simp[uA,b]
     rw[this];unfold S.bQ S.QT wE.val;simp only[b,aQ,ca,bf]
    .by_cases a:t∈(rc N).tT
     .have:uA rc t N=W:=by simp[uA,cf.2 a]
      rw[this];unfold S.bQ S.QT wE.val;simp[b,aQ,e,fg,a]
     .have c:ig t (rc N).tT=F:=by
       cases f:ig t (rc N).tT with
       |false=>rfl|true=>exact (a (cf.1 f)).elim
      have:uA rc t N=F:=by simp[uA,b,e,c]
      rw[this];simp only[bq];unfold S.bQ S.QT;simp[b,aQ,e,fg,a]
def M5(d:Nat):∀N,(∀i,i<N->(rc i).f.w=W->aB (rc i).s1.b d≠Y->d∈(rc i).f.bs)->aB (sig rc D s0 N).b d=gB D (BR rc d) (λi=>aB (rc i).s1.b d) (aB s0.b d) N
 |0,_=>rfl|N+1,h=>by
  simp only[sig,gB];rw[<-M5 d N λi hi=>h i M];cases g:D N with
  |false=>simp|true=>
   simp only[bf,oO];cases a:(rc N).f.w with
   |false=>
    have:BR rc d N=F:=by simp[BR,a]
    rw[this];simp[S.QT,a]
   |true=>
    simp only[S.QT,a,bf,vu,pU];cases b:ig d (rc N).f.bs with
    |true=>
     have:BR rc d N=W:=by simp[BR,a,b]
     rw[this];simp only[bf];rw[aj (cf.1 b)];cases aB (rc N).s1.b d<;>rfl
    |false=>
     have:BR rc d N=F:=by simp[BR,b]
     rw[this];have c:d∉(rc N).f.bs:=λe=>by rw[cf.2 e]at b;cases b
     simp only[bq];rw[ai c];cases f:aB (rc N).s1.b d with
     |none=>rfl|some e=>exact (c (h N M a (by rw[f];simp))).elim
def M6(L:cw U T)(k:Nat):∀N,U.get k (sig rc D s0 N).h=gB D (Ip rc k) (λi=>U.get k (rc i).s1.h) (U.get k s0.h) N
 |0=>rfl|N+1=>by
  simp only[sig,gB];rw[<-M6 L k N];cases d:D N with
  |false=>simp|true=>
   simp only[bf,oO];cases b:(rc N).f.w with
   |false=>
    have:Ip rc k N=F:=by simp[Ip,b]
    rw[this];simp[S.QT,b]
   |true=>
    simp only[S.QT,b,bf];rw[BP L];cases a:ig k (rc N).f.ks with
    |true=>
     have:Ip rc k N=W:=by simp[Ip,b,a]
     rw[this,aj (cf.1 a)];rfl
    |false=>
     have:Ip rc k N=F:=by simp[Ip,a]
     have c:k∉(rc N).f.ks:=λe=>by rw[cf.2 e]at a;cases a
     rw[this,ai c];rfl
end
section
variable{P:qK}{E:cm}{U:cg}{T:dm U.C}{X:gj U}{w0:zI}{I0:aD}{n:Nat}{α:Type}{out:α}{esc:Z (Nat×Nat)}{b8:Array JB}
structure yz(s s0:S U.C):Prop where
 bQ:∀t,s0.bQ t=s.bQ t
 b:s0.b=s.b
 h:s0.h=s.h
 hv:s0.hv=s.hv
 m:s0.m=s.m
 tick:s.tick<=s0.tick
 later:bE s s0
 Bj:(∀t st x,aB s.r t=O (st,x)->st<s.tick)->∀t st x,aB s0.r t=O (st,x)->st<s0.tick
def yz.refl (s:S U.C):yz s s:=⟨λ_=>rfl,rfl,rfl,rfl,rfl,a6 _,.refl s,λh=>h⟩
def yz.put {s:S U.C} {x:R U.C} (h:s.bQ t=x):yz s (s.put (O t) x):=by
 refine⟨λb=>?_,rfl,rfl,rfl,rfl,cO _,bh _ _,λc b st y a=>?_⟩
 .unfold S.bQ S.put;simp only[aQ];by_cases e:t=b
  .subst e;simp only[ca];rw[<-h];rfl
  .simp[e]
 .simp only[S.put,aQ]at a⊢;split at a
  .simp only[ax,bc]at a;omega
  .have:=c b st y a;omega
def vJ(P:qK)(E:cm)(T:dm U.C)(b8:Array JB)(o:JB)(s:S U.C)(b:tl):Prop:=∀(bx:Z (Nat×Nat×B U.C))(g:Nat->Nat)(tick:Nat)(q:St),(∀t∈o.looksAt b8,bC P E T bx g tick (s.bQ t) (q.r t))->jz b8 o q=O b
inductive ZI(P:Program)(E:cm)(T:dm U.C)(X:gj U)(w0:World)(I0:aD)(n:Nat)(esc:List (Nat×Nat))(b8:Array Oper)(j:Nat)(o:Oper)(s s':S U.C)(c:wE U.C):Prop
 |run (s0:S U.C) (al:yz s s0) (hd:c.dst=o.dst) (hlo:c.tT=hM o) (hds:c.ds=ez o) (hf:c.f=S.w9 X esc b8 j o s0) (hok:w8 X c.f o (s0.only (iN b8 o) c.f.bs c.f.ks) c.s1=W) (hL:bE (s0.only (iN b8 o) c.f.bs c.f.ks) c.s1)
   (hs:∀q,aX P E T X (s0.only (iN b8 o) c.f.bs c.f.ks) q->dE P E w0 I0 n o q λq1=>aX P E T X c.s1 q1/\Fr X (s0.only (iN b8 o) c.f.bs c.f.ks) o q q1) (hw:vJ P E T b8 o s W) (hs':s'=s0.sM c.s1 o.dst (hM o) c.f)
 |skip (s0:S U.C) (al:yz s s0) (hd:c.dst=o.dst) (hlo:c.tT=[]) (hds:c.ds=[]) (hf:c.f=⟨j,[],[],F⟩) (hc:c.s1=s0.put o.dst o6) (hw:vJ P E T b8 o s F) (hs':s'=s0.put o.dst o6)
def Pr(b:Nat)(c a:wE U.C):Prop:=(b.testBit a.f.i=W∨((c.f.w||a.f.w)=W->(∀d,d∈c.f.bs->d∉a.f.bs)/\∀k,k∈c.f.ks->k∉a.f.ks))/\∀d∈c.ds,d∉a.f.bs
def PrF(b:Nat)(c:wE U.C)(g:Fp):Prop:=(b.testBit g.i=W∨((c.f.w||g.w)=W->(∀d,d∈c.f.bs->d∉g.bs)/\∀k,k∈c.f.ks->k∉g.ks))/\∀d∈c.ds,d∉g.bs
def sd:∀{l l':Z Nat},A9 l l'=F↔∀d∈l,d∉l'
 |[],l'=>by simp[A9]|d::l,l'=>by
  simp only[A9,x4,sd (l:=l),cT,forall_eq_or_imp];refine and_congr_left λ_=>⟨λh e=>(by rw[cf.2 e]at h;cases h),λh=>?_⟩
  cases a:ig d l' with
  |false=>rfl|true=>exact (h (cf.1 a)).elim
def vK{b:Nat}{f:Fp}:∀{fs:Z Fp},vp b f fs=W->∀g∈fs,b.testBit g.i=W∨((f.w||g.w)=W->(∀d,d∈f.bs->d∉g.bs)/\∀k,k∈f.ks->k∉g.ks)
 |[],_,g,a=>by cases a
 |g'::fs,h,g,a=>by
  simp only[vp,aI,kS,il]at h;rcases cT.1 a with rfl|a
  .rcases h.1 with h|h
   .exact .inl h
   .refine .inr λc=>?_;rw[c]at h;simp only[oO,x4]at h;exact⟨sd.1 h.1,sd.1 h.2⟩
  .exact vK h.2 g a
def yA{b:Z Nat}:∀{fs:Z Fp},Ba b fs=W->∀g∈fs,∀d∈b,d∉g.bs
 |[],_,g,a=>by cases a
 |g'::fs,h,g,a=>by
  simp only[Ba,aI,il]at h;rcases cT.1 a with rfl|a
  .exact sd.1 h.1
  .exact yA h.2 g a
def KQ{s:S U.C}(h:o.guard=Y):vJ P E T b8 o s W:=λbx g tick q _=>by simp[jz,h]
def xp{s:S U.C}{a b:tl}(h:o.guard=O (j,a))(c:(b8[j]?).bind (·.dst)=O t)(d:∀bx g tick q,bC P E T bx g tick (s.bQ t) (q.r t)->tv q t a=O b):vJ P E T b8 o s b:=λbx g tick q e=>by simp only[jz,h,c];refine d bx g tick q (e t ?_);simp only[Oper.looksAt,h,c];simp
variable(L:cw U T)
include L in
theorem Ir(R:bP P E T X){m0:Nat->tl}(a0:(∃k,m0 k=W)->E.dc=F)(b0:iJ n b8=W){v:Array Nat}{K:S U.C->V α}:∀(l:Z JB)(i:Nat)(fs:Z Fp)(s:S U.C),(∀j,l[j]?=b8[i+j]?)->s.m=m0->yi X esc b8 v l i fs s K=O out->
  ∃(st:Nat->S U.C)(rc:Nat->wE U.C),st i=s/\K (st (i+l.length))=O out/\∀j,i<=j->j<i+l.length->(rc j).f.i=j/\(∃o,b8[j]?=O o/\ZI P E T X w0 I0 n esc b8 j o (st j) (st (j+1)) (rc j))/\(∀g∈fs,PrF (v.getD j 0) (rc j) g)/\∀k,i<=k->k<j->Pr (v.getD j 0) (rc j) (rc k)
 |[],i,fs,s,I,hm,h=>⟨λ_=>s,λ_=>⟨Y,[],⟨0,[],[],F⟩,s,[]⟩,rfl,h,λj h1 C=>by simp only[kU]at C;omega⟩|o::l,i,fs,s,I,hm,h=>by
  have c0:b8[i]?=O o:=by simpa using(I 0).symm
  have j0:∀j,l[j]?=b8[(i+1)+j]?:=λj=>by have:=I (j+1);simpa[jd,jF 1]using this
  have d0:=qO.1 b0 o (jP c0);simp only[aI]at d0;have e0:∀(s':S U.C)(c:wE U.C)(f:Fp),c.f=f->f.i=i->ZI P E T X w0 I0 n esc b8 i o s s' c->(∀g∈fs,PrF (v.getD i 0) c g)->s'.m=m0->yi X esc b8 v l (i+1) (f::fs) s' K=O out->
    ∃(st:Nat->S U.C)(rc:Nat->wE U.C),st i=s/\K (st (i+(o::l).length))=O out/\∀j,i<=j->j<i+(o::l).length->(rc j).f.i=j/\(∃o,b8[j]?=O o/\ZI P E T X w0 I0 n esc b8 j o (st j) (st (j+1)) (rc j))/\(∀g∈fs,PrF (v.getD j 0) (rc j) g)/\∀k,i<=k->k<j->Pr (v.getD j 0) (rc j) (rc k):=by
   intro s' c f f0 l0 n0 o0 p0 h;obtain⟨st,rc,h1,C,q0⟩:=Ir R a0 b0 l (i+1) (f::fs) s' j0 p0 h;refine⟨λj=>if j=i then s else st j,λj=>if j=i then c else rc j,aE,?_,λj D0 r0=>?_⟩
   .have e:i+(o::l).length=i+1+l.length:=by simp only[ec];omega
    simp only[e];rw[ai M];exact C
   .by_cases e:j=i
    .subst e;simp only[ca];refine⟨by rw[f0,l0],⟨o,c0,?_⟩,o0,λk t0 g0=>M⟩;rw[ai M,h1];exact n0
    .simp only[ai e];obtain⟨g1,g2,g3,u0⟩:=q0 j M (by simp only[ec]at r0;omega);rw[ai M];refine⟨g1,g2,λg r=>g3 g (s6 _ r),λk t0 g0=>?_⟩;by_cases h0:k=i
     .subst h0;simp only[ca];have:=g3 f EV;unfold Pr;rw[f0];exact this
     .rw[ai h0];exact u0 k M g0
  have D:∀s0:S U.C,yz s s0->vJ P E T b8 o s W->(bif vp (v.getD i 0) (S.w9 X esc b8 i o s0) fs&&Ba (ez o) fs then hS X (λ_ _=>Y) esc F o (s0.only (iN b8 o) (S.w9 X esc b8 i o s0).bs (S.w9 X esc b8 i o s0).ks) λs1=>bif w8 X (S.w9 X esc b8 i o s0) o (s0.only (iN b8 o) (S.w9 X esc b8 i o s0).bs (S.w9 X esc b8 i o s0).ks) s1 then(s0.sM s1 o.dst (hM o) (S.w9 X esc b8 i o s0)).DP (λs=>yi X esc b8 v l (i+1) (S.w9 X esc b8 i o s0::fs) s K)else Y else Y)=O out->_:=λs0 A m h=>by
   obtain⟨h1,h⟩:=aA h;simp only[aI]at h1;have v0:(∃k,(s0.only (iN b8 o) (S.w9 X esc b8 i o s0).bs (S.w9 X esc b8 i o s0).ks).m k=W)->E.dc=F:=λ⟨k,G⟩=>a0 ⟨k,by simp only[S.only,aI]at G;rw[<-hm,<-A.m];exact G.1⟩;cases FZ (w0:=w0) (I0:=I0) L R v0 d0.1 h with
   |one s1 B i0 x0=>obtain⟨C,B⟩:=aA B;rw[S.A8]at B;have E0:=i0.m;refine e0 _ ⟨o.dst,ez o,S.w9 X esc b8 i o s0,s1,hM o⟩ _ rfl rfl (.run s0 A rfl rfl rfl rfl C i0 (λq y0 a w A0 Q=>?_) m rfl) (λg r=>⟨vK h1.1 g r,yA h1.2 g r⟩) (by rw[<-hm,<-A.m];rfl) B;exact lZ (λa' w' ⟨B0,g1,g2,g3⟩=>⟨B0,g1,g2,g3 rfl⟩) (x0 q y0 a w A0 Q)|fO C0=>cases C0
   |dO p s1 B=>cases B
  have skip:∀s0:S U.C,yz s s0->vJ P E T b8 o s F->yi X esc b8 v l (i+1) (⟨i,[],[],F⟩::fs) (s0.put o.dst o6) K=O out->_:=λs0 A m h=>by refine e0 _ ⟨o.dst,[],⟨i,[],[],F⟩,s0.put o.dst o6,[]⟩ _ rfl rfl (.skip s0 A rfl rfl rfl rfl rfl m rfl) (λg r=>⟨.inr λ_=>⟨λd J=>(by cases J),λk G=>(by cases G)⟩,λd J=>(by cases J)⟩) ?_ h;rw[<-hm,<-A.m];cases o.dst<;>rfl
  unfold yi at h;simp only at h;cases r:o.guard with
  |none=>simp only[r]at h;exact D s (.refl s) (KQ r) h|some p=>
   obtain⟨j,H⟩:=p;simp only[r]at h;split at h
   .cases h
   .rename_i t N;split at h
    .rename_i b y;have m:vJ P E T b8 o s (b==H):=xp r N λbx g tick q x=>by
      rw[y]at x;have z:q.r t=.val (.fl (.bool b)):=by
       cases x with
       |val _ _ _ av z hv=>obtain ⟨_,rfl⟩:=hv;exact dF z
      simp[tv,z]
     cases b<;>cases H<;>simp only[bf,bq]at h
     .exact D _ (.put y) m h
     .exact skip _ (.put y) m h
     .exact skip _ (.put y) m h
     .exact D _ (.put y) m h
    .rename_i b y;have m:vJ P E T b8 o s (b==H):=xp r N λbx g tick q x=>by
      rw[y]at x;have z:q.r t=.val (.fl (.bool b)):=by
       generalize q.r t=u at x;cases x with
       |const _ G0=>rfl
      simp[tv,z]
     cases b<;>cases H<;>simp only[Bool.xor_self,Bool.xor_true,Bool.xor_false,M3,kb,bf,bq]at h
     .exact D _ (.refl s) m h
     .exact skip _ (.refl s) m h
     .exact skip _ (.refl s) m h
     .exact D _ (.refl s) m h
    .rename_i y;refine skip _ (.refl s) (xp r N λbx g tick q x=>?_) h;rw[y]at x;have z:∃qs,q.r t=.fK qs:=by
      generalize q.r t=u at x;cases x with
      |fK _ qs _ _=>exact ⟨qs,rfl⟩
     obtain⟨qs,z⟩:=z;simp[tv,z]
    .cases h
end
section
variable{C:Nat->Type}
def zu{d':Nat}:d∈[d']↔Nat.beq d' d=W:=⟨λh=>by rw[iC.1 h];exact py _,λh=>iC.2 (bV h).symm⟩
mutual
def vL{d:Nat}:∀{r:R C},d∈r.qM↔r.aT d=W
 |.dT d' _=>zu|.whole d'=>zu
 |.fV d' _ _ _ _ _=>zu|.fK rs=>by simp only[R.qM,R.aT];exact nw
 |.fn _ rs=>by simp only[R.qM,R.aT];exact nw|.none=>by simp[R.qM,R.aT]
 |.val _ _=>by simp[R.qM,R.aT]|.const _=>by simp[R.qM,R.aT]
 |.bM _ _=>by simp[R.qM,R.aT]|.dJ _ _ _=>by simp[R.qM,R.aT]
 |.mQ _ _ _=>by simp[R.qM,R.aT]|.ji _ _ _=>by simp[R.qM,R.aT]
 |.kn _ _ _ _=>by simp[R.qM,R.aT]|.sub d' _ _=>zu
 |.sJ rs=>by simp only[R.qM,R.aT];exact nw|.pw r=>by simp only[R.qM,R.aT];exact vL
 |.gx _=>by simp[R.qM,R.aT]|.it=>by simp[R.qM,R.aT]
 |.lT _ rs=>by simp only[R.qM,R.aT];exact nw|.agg _ rs=>by simp only[R.qM,R.aT];exact nw
def nw{d:Nat}:∀{rs:Z (R C)},d∈Dd rs↔cN d rs=W
 |[]=>by simp[Dd,cN]|r::rs=>by simp only[Dd,cN,dR,kS];rw[vL,nw]
end
def B.vL {x:B C}:d∈x.qM↔x.aT d=W:=by
 cases x with
 |bi _ _ _=>simp[B.qM,B.aT]|cells _ rs=>exact nw
def Ek{s:S C}{bs:Z Nat}(h:Xo s bs (O d)=W):(∀e,(s.bQ d).aT e=W->e∈bs)/\ed s.tick (s.bQ d)=W:=by
 simp only[Xo,aI,R.Qj,cS]at h;obtain⟨a,j,g⟩:=h;refine⟨λe l=>cf.1 (j e (Go.X.vL.2 l)),?_⟩;cases b:s.bQ d with
 |fV d' i k m t x=>rw[b]at g;exact g|fK rs=>rw[b]at a;simp only[MC,cS]at a;simp only[ed];refine dZ.2 λr c=>?_;have:=a r c;cases r<;>first|rfl|cases this
 |fn f rs=>rw[b]at a;simp only[MC,cS]at a;simp only[ed];refine dZ.2 λr c=>?_;have:=a r c;cases r<;>first|rfl|cases this
 |sJ _=>rw[b]at a;cases a
 |pw _=>rw[b]at a;cases a
 |lT _ _=>rw[b]at a;cases a
 |agg _ rs=>rw[b]at a;simp only[MC,cS]at a;simp only[ed];refine dZ.2 λr c=>?_;have:=a r c;cases r<;>first|rfl|cases this
 |_=>rfl
def xq{f:Fp}{a:Z Nat}{bx:Z (Nat×Nat×B C)}{tick:Nat}:∀{l:Z (Nat×Nat×B C)},TL f a bx tick l=W->∀d st x,(d,st,x)∈l->d∈f.bs/\st<tick/\(∀e,x.aT e=W->e∈f.bs)/\x.FE tick=W/\(d∈a∨aB bx d≠Y)
 |[],h,d,st,x,hm=>by cases hm
 |(d',st',n)::l,h,d,st,x,hm=>by
  simp only[TL,aI,kS,cS,fQ]at h;obtain⟨b,c,g,i,j,k⟩:=h;rcases cT.1 hm with e|hm
  .simp only[bc]at e;obtain⟨rfl,rfl,rfl⟩:=e;refine⟨cf.1 b,c,λe m=>cf.1 (g e (B.vL.2 m)),i,j.imp cf.1 λh e=>?_⟩;unfold TK at h;rw[e]at h;cases h
  .exact xq k d st x hm
def yB{tick:Nat}{bx c:Z (Nat×Nat×B C)}:∀{l:Z Nat},FF tick bx c l=W->∀d∈l,(∃st x,aB c d=O (st,x)/\st<tick)∨(aB c d=Y/\aB bx d=Y)
 |[],h,d,b=>by cases b
 |d'::l,h,d,b=>by
  simp only[FF,aI]at h;rcases cT.1 b with rfl|b
  .have a:=h.1;cases f:aB c d with
   |none=>
    rw[f]at a;refine .inr ⟨rfl,?_⟩;unfold TK at a;cases g:aB bx d with
    |none=>rfl|some e=>rw[g]at a;cases a
   |some e=>obtain⟨st,x⟩:=e;rw[f]at a;exact .inl ⟨st,x,rfl,by simpa using a⟩
  .exact yB h.2 d b
end
section
variable{P:qK}{E:cm}{U:cg}{T:dm U.C}{X:gj U}
def nM.xo {bx:Z (Nat×Nat×B U.C)} {o:V (Nat×B U.C)} {u:V Bx} (h:nM P E T X bx g tick o u) (hv:∀st x,o=O (st,x)->x.FE tick'=W):nM P E T X bx g tick' o u:=by
 cases o with
 |none=>trivial|some e=>
  obtain⟨st,x⟩:=e;cases x with
  |bi t e xs=>exact h|cells t rs=>obtain⟨b,d,cs,f,j,k⟩:=h;exact⟨b,d,cs,f,j,λi r c a l=>(k i r c a l).xo (dZ.1 (hv _ _ rfl) r (bF a))⟩
def OA{s s' p j:S U.C}{f:Fp}{q q1:St}(h:aX P E T X s q)(D:aX P E T X j q1)(z:Fr X p o q q1)(N:bE p j)(w0:w8 X f o p j=W)
  (x0:∀k,p.m k=(s.m k&&ig k f.ks)) (Q:∀d,d∈f.bs->aB p.b d=aB s.b d) (y0:∀d,d∉f.bs->aB p.b d=Y) (A0:∀d∈ez o,d∈f.bs)
  (N0:∀t,s'.bQ t=if o.dst=O t then j.bQ t else if t∈hM o then .none else s.bQ t)
  (G:∀d,aB s'.b d=if f.w=W/\d∈f.bs then aB j.b d else aB s.b d)
  (P0:∀k,U.get k s'.h=if f.w=W/\k∈f.ks then U.get k j.h else U.get k s.h)
  (Q0:s'.m=s.m) (h0:s'.tick=s.tick) (B0:j.tick<=s.tick) (R0:∀t st x,aB s'.r t=O (st,x)->st<s'.tick)
  (S0:f.w=W->∀t,o.dst≠O t->∀d∈f.bs,(s.bQ t).aT d=W->ed p.tick (s.bQ t)=W)
  (T0:f.w=W->∀d st x,aB s.b d=O (st,x)->d∉f.bs->∀d'∈f.bs,x.aT d'=W->x.FE p.tick=W)
  (C0:f.w=W->∀t,o.dst≠O t->∀d∈ez o,(s.bQ t).aT d=F)
  (U0:f.w=W->∀d st x,aB s.b d=O (st,x)->d∉f.bs->∀d'∈ez o,x.aT d'=F):aX P E T X s' q1:=by
 have C1:p.tick<=j.tick:=N.tick;simp only[w8,aI,kS,il]at w0;obtain⟨D0,X0,H⟩:=w0;have i0:f.w=W->∀d st x,aB j.b d=O (st,x)->d∈f.bs/\st<j.tick/\(∀e,x.aT e=W->e∈f.bs)/\x.FE j.tick=W/\(d∈ez o∨aB p.b d≠Y):=λb d st x w=>by rw[b]at H;exact xq H d st x (fM w)
 have still:f.w=F->q1.b=q.b/\q1.g=q.g/\q1.a=q.a/\q1.u=q.u/\∀t,o.dst≠O t->q1.r t=q.r t:=λb=>z.still (by
  rcases X0 with e|e
  .rw[b]at e;cases e
  .exact e)
 have A:∀d,d∈f.bs->aB s'.b d=aB j.b d:=λd a=>by
  rw[G];cases b:f.w with
  |true=>simp[a]|false=>
   simp only[iA,false_and,cG];rw[b]at H;simp only[bq]at H;rcases yB H d a with⟨st,x,e1,e2⟩|⟨e1,e2⟩
   .rw[e1,<-Q d a];exact N.b d st x e1 e2
   .rw[e1,<-Q d a];exact e2
 have a1:∀d,d∉f.bs->aB s'.b d=aB s.b d:=λd a=>by rw[G];simp[a]
 have j0:∀tick d,d∉f.bs->ku s.b s'.b q.g q1.g tick d:=λtick d a=>.inl ⟨a1 d a,(z.ev d λe=>a (A0 d e)).2⟩;have E0:f.w=W->∀d,d∉ez o->ku s.b s'.b q.g q1.g p.tick d:=λb d G0=>by
  by_cases a:d∈f.bs
  .obtain ⟨ev,l0⟩:=z.ev d G0;unfold ku;rw[A d a];cases w:aB j.b d with
   |none=>exact .inr (.inl rfl)|some e=>
    obtain⟨m0,a0⟩:=e;by_cases f1:m0<p.tick
    .left;exact⟨by rw[<-Q d a];exact (N.b d m0 a0 w f1).symm,l0⟩
    .obtain ⟨_,_,_,_,I⟩:=i0 b d m0 a0 w;rcases I with I|I
     .exact (G0 I).elim
     .cases H0:aB p.b d with
      |none=>exact (I H0).elim|some e=>
       obtain⟨st,x⟩:=e;have n0:aB s.b d=O (st,x):=by rw[<-Q d a,H0]
       have b0:=h.bG d;have f0:=D.bG d;rw[n0]at b0;rw[w]at f0;right;right;cases x with
       |cells u rs=>
        cases a0 with
        |cells g1 i1=>exact .inl ⟨l0,_,_,_,_,_,_,n0,rfl⟩|bi j1 e1 k1=>obtain⟨_,_,cs,c0,_⟩:=b0;obtain⟨_,J⟩:=f0;rw[c0,J]at ev;rcases ev with ev|⟨_,_,_,ev⟩|⟨_,_,_,ev,_⟩<;>cases ev
       |bi t e xs=>
        obtain⟨l1,c0⟩:=b0;cases a0 with
        |cells g1 i1=>obtain⟨_,_,cs,J,_⟩:=f0;rw[c0,J]at ev;rcases ev with ev|⟨_,_,ev,_⟩|⟨_,_,_,_,ev,_⟩<;>cases ev
        |bi j1 e1 k1=>
         obtain⟨g0,J⟩:=f0;rw[c0,J]at ev;rcases ev with ev|⟨_,_,ev,_⟩|⟨e2,l,l',I0,J0,m1⟩
         .cases ev
         .cases ev
         .simp only[ax,Bx.bi.injEq]at I0 J0;obtain⟨rfl,rfl⟩:=I0;obtain⟨rfl,rfl⟩:=J0;rw[l1]at g0;cases g0;exact .inr ⟨l0,_,_,_,_,_,_,_,n0,rfl,by simpa using m1,M⟩
  .exact j0 _ d a
 refine⟨λt=>?_,λd=>?_,R0,λd st x B=>?_,λk o0 p0 i=>?_,by rw[z.df];exact h.df⟩
 .
  rw[N0 t,h0];by_cases a:o.dst=O t
  .rw[aj a];rw[a]at D0;obtain⟨e1,_⟩:=Ek D0;exact(D.cu t).mono (λd q0=>.inl ⟨A d (e1 d q0),rfl⟩) B0
  .rw[ai a];by_cases r0:t∈hM o
   .rw[aj r0];exact .none _
   rw[ai r0];have s0:=h.cu t;cases b:f.w with
   |false=>obtain⟨e1,e2,_,_,n1⟩:=still b;rw[n1 t a];exact s0.mono (λd _=>.inl ⟨by rw[G];simp[b],by rw[e2]⟩) (a6 _)|true=>
    have K:bC P E T s'.b q1.g s.tick (s.bQ t) (q.r t):=by
     by_cases L:∃d∈f.bs,(s.bQ t).aT d=W
     .obtain ⟨d,t0,u0⟩:=L;refine(s0.xo (S0 b t a d t0 u0)).mono (λd' n=>E0 b d' λe=>?_) M;rw[C0 b t a d' e]at n;cases n
     .exact s0.mono (λd q0=>j0 _ d λe=>L ⟨d,e,q0⟩) (a6 _)
    rcases z.r t a r0 with e|⟨d,gg,off,len,e1,e2,e3⟩
    .rw[e];exact K
    .rw[e1]at K;have K0:d∈f.bs:=LZ λc=>e2 (y0 d c);have v0:=C0 b t a;generalize s.bQ t=r at K v0;generalize hv:cy.view d gg off len=v at K;cases K with
     |none=>exact .none _|val t x _ av o1 _=>subst hv;cases o1
     |const v _=>unfold ct at hv;split at hv<;>cases hv
     |bM=>cases hv
     |dT d' k _ C=>exact .dT d' k _ λst u rs g=>by have:=C st u rs g;rw[<-hv]at this;cases this
     |whole d' _ C=>
      refine .whole d' _ λst t e xs g=>?_;have:=C st t e xs g;rw[<-hv]at this;simp only[cy.view.injEq]at this;obtain⟨rfl,_⟩:=this;rcases e3 with e3|e3
      .rw[A d K0]at g;have y:=D.bG d;rw[g,e3]at y;obtain⟨_,y⟩:=y;cases y
      .have:=v0 d e3;simp[R.aT]at this
     |fV d' i k p1 t x _ r1 C=>exact .fV d' i k p1 t x _ r1 λst v1 e xs g=>by have:=(C st v1 e xs g).1;rw[<-hv]at this;cases this
     |dJ=>cases hv
     |fK=>cases hv
     |fn=>cases hv
     |mQ=>cases hv
     |ji=>cases hv
     |kn=>cases hv
     |sub d' w1 m _ C=>
      refine .sub d' w1 m _ λst t e xs g=>?_;have:=C st t e xs g;rw[<-hv]at this;obtain⟨this,_⟩:=this;simp only[cy.view.injEq]at this;obtain⟨rfl,_⟩:=this;rcases e3 with e3|e3
      .rw[A d K0]at g;have y:=D.bG d;rw[g,e3]at y;obtain⟨_,y⟩:=y;cases y
      .have:=v0 d e3;simp[R.aT]at this
     |it=>cases hv
     |sJ=>cases hv
     |pw=>cases hv
     |gx=>cases hv
     |lT=>cases hv
     |agg=>cases hv
 .
  rw[h0];by_cases c:f.w=W/\d∈f.bs
  .rw[A d c.2];exact(D.bG d).mono (λst x B d' n=>.inl ⟨A d' ((i0 c.1 d st x B).2.2.1 d' n),rfl⟩) B0
  .have y1:aB s'.b d=aB s.b d:=by rw[G,ai c]
   rw[y1];cases b:f.w with
   |false=>obtain⟨e1,e2,_⟩:=still b;rw[e1];exact(h.bG d).mono (λst x B d' n=>.inl ⟨by rw[G];simp[b],by rw[e2]⟩) (a6 _)|true=>
    have a:d∉f.bs:=λe=>c ⟨b,e⟩;rw[(z.b d (y0 d a) λe=>a (A0 d e)).1];have g:=h.bG d;cases w:aB s.b d with
    |none=>trivial|some e=>
     obtain⟨st,x⟩:=e;rw[w]at g;by_cases L:∃d'∈f.bs,x.aT d'=W
     .obtain ⟨g0,t0,u0⟩:=L;have A1:=g.xo (tick':=p.tick) λst' L0 e=>by simp only[ax,bc]at e;obtain⟨rfl,rfl⟩:=e;exact T0 b d st x w a g0 t0 u0
      refine A1.mono (λst' L0 e d' n=>?_) M;simp only[ax,bc]at e;obtain⟨rfl,rfl⟩:=e;refine E0 b d' λe=>?_;rw[U0 b d st x w a d' e]at n;cases n
     .refine g.mono (λst' L0 e d' n=>?_) (a6 _);simp only[ax,bc]at e;obtain⟨rfl,rfl⟩:=e;exact j0 _ d' λe=>L ⟨d',e,n⟩
 .rw[h0];by_cases c:f.w=W/\d∈f.bs
  .rw[A d c.2]at B;have:=(i0 c.1 d st x B).2.1;omega
  .rw[G,ai c]at B;exact h.DU d st x B
 .rw[P0];rw[Q0]at p0;by_cases c:f.w=W/\k∈f.ks
  .rw[aj c];exact D.heap k o0 (by rw[N.m,x0,p0,cf.2 c.2];rfl) i
  .rw[ai c];have:=h.heap k o0 p0 i;have e:q1.a (dI k i)=q.a (dI k i)/\q1.u (dI k i)=q.u (dI k i):=by
    cases b:f.w with
    |false=>obtain⟨_,_,e3,e4,_⟩:=still b;rw[e3,e4];exact⟨rfl,rfl⟩|true=>
     refine z.a k i o0 ?_;rw[x0];cases B1:ig k f.ks with
     |false=>simp|true=>exact (c ⟨b,cf.1 B1⟩).elim
   rw[e.1,e.2];exact this
end
section
variable{P:qK}{E:cm}{U:cg}{T:dm U.C}{X:gj U}{w0:zI}{I0:aD}{n:Nat}{α:Type}{out:α}{esc:Z (Nat×Nat)}{b8:Array JB}
def aX.Is {s s':S U.C} {q:St} (h:aX P E T X s q) (f:∀t,s'.bQ t=s.bQ t∨s'.bQ t=.none) (a:∀d,aB s'.b d=aB s.b d∨aB s'.b d=Y) (g:∀t st x,aB s'.r t=O (st,x)->st<s'.tick) (j:∀d st x,aB s'.b d=O (st,x)->st<s'.tick)
  (l:∀t,ed s'.tick (s'.bQ t)=W) (m:∀d st x,aB s'.b d=O (st,x)->x.FE s'.tick=W) (n:∀k,k<U.nk->s'.m k=W->s.m k=W/\U.get k s'.h=U.get k s.h):aX P E T X s' q:=by
 have b:∀d,ku s.b s'.b q.g q.g s'.tick d:=λd=>by
  rcases a d with e|e
  .exact .inl ⟨e,rfl⟩
  .exact .inr (.inl e)
 refine⟨λt=>?_,λd=>?_,g,j,λk c o i=>?_,h.df⟩
 .rcases f t with e|e
  .have:=l t;rw[e]at this⊢;exact((h.cu t).xo this).mono (λd _=>b d) (a6 _)
  .rw[e];exact .none _
 .rcases a d with e|e
  .have:=m d;rw[e]at this⊢;exact((h.bG d).xo this).mono (λ_ _ _ d _=>b d) (a6 _)
  .rw[e];trivial
 .obtain ⟨p,r⟩:=n k c o;rw[r];exact h.heap k c p i
def xr(d tick:Nat)(l:Z (Nat×Nat×R U.C))(t:Nat):aB (ko d tick l) t=(aB l t).map λe=>if e.2.aT d=W then(tick,.none)else e:=by
 induction l with
 |nil=>rfl|cons e l a=>
  obtain⟨c,st,x⟩:=e;simp only[ko];cases b:x.aT d with
  |true=>simp only[bf,aQ,a];split<;>simp[b]|false=>simp only[bq,aQ,a];split<;>simp[b]
def S.QV {s s':S U.C} (h:s'.r=ko d tick s.r) (t:Nat):s'.bQ t=if(s.bQ t).aT d=W then .none else s.bQ t:=by
 rw[S.gA,S.gA,h,xr];cases aB s.r t with
 |none=>simp[R.aT]|some e=>
  obtain⟨st,x⟩:=e;simp only[cj];cases a:x.aT d with
  |true=>simp[a]|false=>simp[a]
def El{d:Nat}:∀{l:Z (Nat×Nat×B U.C)},mm d l=W->∀e st x,aB l e=O (st,x)->x.aT d=F
 |[],h,e,st,x,a=>by cases a
 |(d',st',b)::l,h,e,st,x,a=>by
  simp only[mm,aI,il]at h;rw[aQ]at a;split at a
  .simp only[ax,bc]at a;obtain⟨rfl,rfl⟩:=a;exact h.1
  .exact El h.2 e st x a
def M7{q:St}:∀{i:Z Nat}{s s0:S U.C},Qi i s=O s0->aX P E T X s q->aX P E T X s0 q/\bE s s0/\s0.m=s.m/\(∀t,s0.bQ t=s.bQ t∨s0.bQ t=.none)/\(∀d,aB s0.b d=aB s.b d∨aB s0.b d=Y)/\∀d∈i,(∀t,(s0.bQ t).aT d=F)/\∀e st x,aB s0.b e=O (st,x)->x.aT d=F
 |[],s,s0,h,c=>by simp only[Qi,ax]at h;subst h;exact⟨c,.refl s,rfl,λ_=>.inl rfl,λ_=>.inl rfl,λd o=>by cases o⟩
 |d::i,s,s0,h,c=>by
  simp only[Qi]at h;obtain⟨p,h⟩:=aA h;have g:=λt=>S.QV (s:=s) (s':={s with r:=ko d s.tick s.r,b:=bB s.b d,tick:=s.tick+1}) rfl t;have m:∀e,aB (bB s.b d) e=aB s.b e∨aB (bB s.b d) e=Y:=λe=>by
   rw[aN];split
   .exact .inr rfl
   .exact .inl rfl
  have u:∀t st x,aB (ko d s.tick s.r) t=O (st,x)->st<s.tick+1:=λt st x a=>by
   rw[xr]at a;simp only[ck]at a;obtain⟨⟨st',n⟩,e1,f⟩:=a;split at f
   .simp only[bc]at f;omega
   .simp only[bc]at f;have:=c.Bj t st' n e1;omega
  have v:aX P E T X {s with r:=ko d s.tick s.r,b:=bB s.b d,tick:=s.tick+1} q:=by
   refine c.Is (λt=>?_) m u (λe st x a=>?_) (λt=>?_) (λe st x a=>?_) λk _ j=>⟨j,rfl⟩
   .rw[g t];split
    .exact .inr rfl
    .exact .inl rfl
   .rw[aN]at a;split at a
    .cases a
    .have:=c.DU e st x a;show st<s.tick+1;omega
   .rw[g t];split
    .rfl
    .exact hV (cO _) (c.cu t).ed
   .rw[aN]at a;split at a
    .cases a
    .have:=c.bG e;rw[a]at this;exact B.nv (cO _) this.FE
  have w:bE s {s with r:=ko d s.tick s.r,b:=bB s.b d,tick:=s.tick+1}:=by
   refine⟨rfl,cO _,λt st x a y=>?_,λe st x a y=>?_,λh=>⟨rfl,rfl⟩⟩
   .simp only[xr,ck]at a;obtain⟨⟨st',n⟩,e1,f⟩:=a;split at f
    .simp only[bc]at f;omega
    .rw[e1,f]
   .simp only[aN]at a;split at a
    .cases a
    .exact a
  obtain⟨z,g2,g3,g4,g5,A⟩:=M7 h v;refine⟨z,w.trans g2,g3,λt=>?_,λe=>?_,λd' l=>?_⟩
  .rcases g4 t with e|e
   .rw[e,g t];split
    .exact .inr rfl
    .exact .inl rfl
   .exact .inr e
  .rcases g5 e with e'|e'
   .rw[e'];exact m e
   .exact .inr e'
  .rcases cT.1 l with rfl|l
   .refine ⟨λt=>?_,λe st x a=>?_⟩
    .rcases g4 t with e|e
     .rw[e,g t];split
      .rfl
      .rename_i C;cases j:(s.bQ t).aT d' with
       |true=>exact (C j).elim|false=>rfl
     .rw[e];rfl
    .rcases g5 e with e'|e'
     .rw[e']at a;exact El p e st x a
     .rw[e']at a;cases a
   .exact A d' l
structure QW(b8:Array Oper)(st:Nat->S U.C)(rc:Nat->wE U.C)(j:Nat):Prop where
 bQ:∀t,(st (j+1)).bQ t=if uA rc t j=W then(rc j).val t else(st j).bQ t
 box:∀d,aB (st (j+1)).b d=if(rc j).f.w=W/\d∈(rc j).f.bs then aB (rc j).s1.b d else aB (st j).b d
 get:∀k,U.get k (st (j+1)).h=if(rc j).f.w=W/\k∈(rc j).f.ks then U.get k (rc j).s1.h else U.get k (st j).h
 later:bE (st j) (st (j+1))
 tick:(rc j).s1.tick<=(st (j+1)).tick
 Bj:(∀t s x,aB (st j).r t=O (s,x)->s<(st j).tick)->∀t s x,aB (st (j+1)).r t=O (s,x)->s<(st (j+1)).tick
 bx:(rc j).f.w=W->∀d s x,aB (rc j).s1.b d=O (s,x)->d∈(rc j).f.bs/\s<(rc j).s1.tick/\(∀e,x.aT e=W->e∈(rc j).f.bs)/\x.FE (rc j).s1.tick=W
 rg:∀t,uA rc t j=W->(∀e,((rc j).val t).aT e=W->e∈(rc j).f.bs)/\ed (rc j).s1.tick ((rc j).val t)=W
def rG(s:S C)(dst:V Nat)(r:R C)(t:Nat):(s.put dst r).bQ t=if dst=O t then r else s.bQ t:=by
 cases dst with
 |none=>simp[S.put]|some d=>
  unfold S.bQ S.put;simp only[aQ];by_cases e:d=t
  .simp[e]
  .simp[e]
def T9(L:cw U T){st:Nat->S U.C}{rc:Nat->wE U.C}(h:ZI P E T X w0 I0 n esc b8 j o (st j) (st (j+1)) (rc j)):QW b8 st rc j:=by
 cases h with
 |run s0 c p v Q w a0 A d0 f b=>
  have I:=a0;simp only[w8,aI,kS,il]at I;obtain⟨J,e0,K⟩:=I;have f0:s0.tick<=(rc j).s1.tick:=A.tick;have bx:(rc j).f.w=W->∀d s x,aB (rc j).s1.b d=O (s,x)->d∈(rc j).f.bs/\s<(rc j).s1.tick/\(∀e,x.aT e=W->e∈(rc j).f.bs)/\x.FE (rc j).s1.tick=W:=λf d s x m=>by rw[f]at K;obtain⟨B,e2,e3,e4,_⟩:=xq K d s x (fM m);exact⟨B,e2,e3,e4⟩
  have N:∀d,aB (st (j+1)).b d=if(rc j).f.w=W/\d∈(rc j).f.bs then aB (rc j).s1.b d else aB (st j).b d:=λd=>by
   rw[b,<-c.b];simp only[S.sM];cases f:(rc j).f.w with
   |false=>simp|true=>
    simp only[bf,vu,pU,ke];by_cases C:d∈(rc j).f.bs
    .simp only[C,ca];cases aB (rc j).s1.b d<;>rfl
    .simp only[C,cG];cases m:aB (rc j).s1.b d with
     |none=>rfl|some e=>obtain⟨s,x⟩:=e;exact(C (bx f d s x m).1).elim
  have b0:bE s0 (st (j+1)):=by
   rw[b];refine⟨rfl,by show s0.tick<=(rc j).s1.tick+1;omega,λt s x a q=>?_,λd s x a q=>?_,λD=>?_⟩
   .simp only[S.sM]at a;have r:∀l,aB (kp (rc j).s1.tick (hM o) l) t=O (s,x)->aB l t=O (s,x):=λl a=>by
     rw[fg]at a;split at a
     .simp only[ax,bc]at a;omega
     .exact a
    cases g:o.dst with
    |none=>rw[g]at a;exact r _ a|some d=>
     rw[g]at a;simp only[aQ]at a;split at a
     .simp only[ax,bc]at a;omega
     .exact r _ a
   .rw[<-b,N,<-c.b]at a;split at a
    .have:=A.b d s x a q;simp only[S.only,jY]at this;split at this
     .exact this
     .cases this
    .exact a
   .simp only[S.sM]at D⊢;cases i:(rc j).f.w&&Nat.ble s0.tick (rc j).s1.hv with
    |true=>rw[i]at D;simp only[bf]at D;simp only[aI,qW]at i;omega|false=>exact ⟨rfl,rfl⟩
  refine⟨λt=>?_,N,λk=>?_,c.later.trans b0,by rw[b];exact cO _,λq t s x a=>?_,bx,λt u=>?_⟩
  .rw[b,<-c.bQ t];have G:ig t (hM o)=decide (t∈hM o):=by
    by_cases h:t∈hM o
    .rw[cf.2 h];simp[h]
    .cases G:ig t (hM o)with
     |true=>exact (h (cf.1 G)).elim|false=>simp[h]
   simp only[uA,wE.val,p,v,G];cases g:o.dst with
   |none=>unfold S.bQ S.sM;simp only[fg];by_cases m:t∈hM o<;>simp[m]|some d=>
    unfold S.bQ S.sM;simp only[aQ,fg];by_cases e:d=t
    .subst e;simp;rfl
    .by_cases m:t∈hM o<;>simp[e,m]
  .rw[b,<-c.h];simp only[S.sM];cases f:(rc j).f.w with
   |false=>simp|true=>
    simp only[oO,ke];cases i:Nat.ble s0.tick (rc j).s1.hv with
    |true=>simp only[bf];rw[BP L]|false=>
     simp only[bq];have c0:(rc j).s1.hv<s0.tick:=by
      rcases tf (rc j).s1.hv s0.tick with h|h
      .exact h
      .have h':Nat.ble s0.tick (rc j).s1.hv=W:=by rw[qW];exact h
       rw[h']at i;cases i
     obtain⟨_,e⟩:=A.h c0;rw[e];simp[S.only]
  .rw[b]at a⊢;have y:=c.Bj q;simp only[S.sM]at a⊢;have r:aB (kp (rc j).s1.tick (hM o) s0.r) t=O (s,x)->s<(rc j).s1.tick+1:=λa=>by
    rw[fg]at a;split at a
    .simp only[ax,bc]at a;omega
    .have:=y t s x a;omega
   cases g:o.dst with
   |none=>rw[g]at a;exact r a|some d=>
    rw[g]at a;simp only[aQ]at a;split at a
    .simp only[ax,bc]at a;omega
    .exact r a
  .unfold wE.val;by_cases z:(rc j).dst=O t
   .rw[aj z];rw[p]at z;rw[z]at J;exact Ek J
   .rw[ai z];exact⟨λe H=>by simp[R.aT]at H,rfl⟩
 |skip s0 c p v Q w i f b=>
  have B:(rc j).s1.tick=(st (j+1)).tick:=by rw[i,b]
  refine⟨λt=>?_,λd=>?_,λk=>?_,?_,Nat.le_of_eq B,λq t s x a=>?_,λf=>(by rw[w]at f;cases f),λt u=>?_⟩
  .simp only[uA,wE.val,v,p];rw[b,i,rG,c.bQ];by_cases e:o.dst=O t<;>simp[e,ig]
  .rw[b,w,<-c.b];simp;cases o.dst<;>rfl
  .rw[b,w,<-c.h];simp;cases o.dst<;>rfl
  .rw[b];exact c.later.trans (bh _ _)
  .rw[b]at a⊢;have y:=c.Bj q;cases g:o.dst with
   |none=>rw[g]at a;exact y t s x a|some d=>
    rw[g]at a;simp only[S.put,aQ]at a⊢;split at a
    .simp only[ax,bc]at a;omega
    .have:=y t s x a;omega
  .have u:o.dst=O t:=by simpa[uA,v,ig,p]using u
   simp only[wE.val,p,aj u];rw[i,rG,aj u];exact⟨λe H=>by simp[o6,R.aT,cN]at H,rfl⟩
variable{st:Nat->S U.C}{rc:Nat->wE U.C}{N:Nat}
def vM(h:∀j,j<N->QW b8 st rc j)(t:Nat):∀j,j<=N->(st j).bQ t=gB (λ_=>W) (uA rc t) (λi=>(rc i).val t) ((st 0).bQ t) j
 |0,_=>rfl|j+1,a=>by simp only[gB,oO];rw[(h j M).bQ t,vM h t j M];cases b:uA rc t j<;>simp
def vN(h:∀j,j<N->QW b8 st rc j)(d:Nat):∀j,j<=N->aB (st j).b d=gB (λ_=>W) (BR rc d) (λi=>aB (rc i).s1.b d) (aB (st 0).b d) j
 |0,_=>rfl|j+1,b=>by
  simp only[gB,oO];rw[(h j M).box d,vN h d j M];by_cases e:(rc j).f.w=W/\d∈(rc j).f.bs
  .simp[e,BR,cf.2 e.2]
  .rw[ai e];have:BR rc d j=F:=by
    cases a:BR rc d j with
    |false=>rfl|true=>simp only[BR,aI]at a;exact(e ⟨a.1,cf.1 a.2⟩).elim
   rw[this];rfl
def Ge(h:∀j,j<N->QW b8 st rc j)(k:Nat):∀j,j<=N->U.get k (st j).h=gB (λ_=>W) (Ip rc k) (λi=>U.get k (rc i).s1.h) (U.get k (st 0).h) j
 |0,_=>rfl|j+1,b=>by
  simp only[gB,oO];rw[(h j M).get k,Ge h k j M];by_cases e:(rc j).f.w=W/\k∈(rc j).f.ks
  .simp[e,Ip,cf.2 e.2]
  .rw[ai e];have:Ip rc k j=F:=by
    cases a:Ip rc k j with
    |false=>rfl|true=>simp only[Ip,aI]at a;exact(e ⟨a.1,cf.1 a.2⟩).elim
   rw[this];rfl
def ja(h:∀j,j<N->QW b8 st rc j):∀i j,i<=j->j<=N->bE (st i) (st j)
 |i,0,a,b=>by have:i=0:=M;subst this;exact .refl _|i,j+1,a,b=>by
  by_cases e:i=j+1
  .subst e;exact .refl _
  .exact (ja h i j M M).trans (h j M).later
def vO(h:∀j,j<N->QW b8 st rc j)(a:i<j)(b:j<=N):(rc i).s1.tick<=(st j).tick:=fk (h i M).tick (ja h (i+1) j a b).tick
def Gf(h:∀j,j<N->QW b8 st rc j)(h0:∀t s x,aB (st 0).r t=O (s,x)->s<(st 0).tick):∀j,j<=N->∀t s x,aB (st j).r t=O (s,x)->s<(st j).tick
 |0,_=>h0|j+1,a=>(h j M).Bj (Gf h h0 j M)
def M8(h:∀j,j<N->QW b8 st rc j)(h0:∀t s x,aB (st 0).b t=O (s,x)->s<(st 0).tick)(b:j<=N)(d s:Nat)(x:B U.C)(a:aB (st j).b d=O (s,x)):s<(st j).tick:=by
 have g:=(ja h 0 j M b).tick;rw[vN h d j b]at a;rcases jZ (D:=λ_=>W) (wr:=BR rc d) (v:=λi=>aB (rc i).s1.b d) (b0:=aB (st 0).b d) (N:=j)with e|⟨i,f,_,c,e⟩
 .rw[e]at a;have:=h0 d s x a;omega
 .rw[e]at a;simp only[BR,aI]at c;have:=((h i M).bx c.1 d s x a).2.1;have:=vO h f b;omega
def It(h:∀j,j<N->QW b8 st rc j)(h0:∀t,ed (st 0).tick ((st 0).bQ t)=W)(a:j<=N)(t:Nat):ed (st j).tick ((st j).bQ t)=W:=by
 rw[vM h t j a];rcases jZ (D:=λ_=>W) (wr:=uA rc t) (v:=λi=>(rc i).val t) (b0:=(st 0).bQ t) (N:=j)with e|⟨i,b,_,c,e⟩
 .rw[e];exact hV (ja h 0 j M a).tick (h0 t)
 .rw[e];exact hV (vO h b a) ((h i M).rg t c).2
def Iu(h:∀j,j<N->QW b8 st rc j)(h0:∀d s x,aB (st 0).b d=O (s,x)->x.FE (st 0).tick=W)(b:j<=N)(d s:Nat)(x:B U.C)(a:aB (st j).b d=O (s,x)):x.FE (st j).tick=W:=by
 rw[vN h d j b]at a;rcases jZ (D:=λ_=>W) (wr:=BR rc d) (v:=λi=>aB (rc i).s1.b d) (b0:=aB (st 0).b d) (N:=j)with e|⟨i,f,_,c,e⟩
 .rw[e]at a;exact B.nv (ja h 0 j M b).tick (h0 d s x a)
 .rw[e]at a;simp only[BR,aI]at c;exact B.nv (vO h f b) ((h i M).bx c.1 d s x a).2.2.2
def Gg{D:Nat->tl}{s0:S U.C}(h0:∀t s x,aB s0.r t=O (s,x)->s<s0.tick)(a:0<s0.tick):∀N t s x,aB (sig rc D s0 N).r t=O (s,x)->s<s0.tick
 |0,t,s,x,h=>h0 t s x h|N+1,t,s,x,h=>by
  simp only[sig]at h;cases b:D N with
  |false=>rw[b]at h;exact Gg h0 a N t s x h|true=>
   rw[b]at h;simp only[bf,S.QT]at h;have c:aB (kp 0 (rc N).tT (sig rc D s0 N).r) t=O (s,x)->s<s0.tick:=λh=>by
    rw[fg]at h;split at h
    .simp only[ax,bc]at h;omega
    .exact Gg h0 a N t s x h
   cases e:(rc N).dst with
   |none=>rw[e]at h;exact c h|some d=>
    rw[e]at h;simp only[aQ]at h;split at h
    .simp only[ax,bc]at h;omega
    .exact c h
def Iv{s0:S U.C}{D:Nat->tl}:∀N,(∀i,i<N->D i=F)->sig rc D s0 N=s0
 |0,_=>rfl|N+1,h=>by simp only[sig,h N (gl N),bq];exact Iv N λi hi=>h i M
end
section
variable{P:qK}{E:cm}{U:cg}{T:dm U.C}{X:gj U}{w0:zI}{I0:aD}{n:Nat}{α:Type}{out:α}{esc:Z (Nat×Nat)}{b8:Array JB}
def gN(h:Bb b8=W){k:Nat}{b:JB}(g:b8[k]?=O b):
  (∀e∈b.after,Region.binds .any e=W->e.on<k)/\(∀i a,b8[i]?=O a->i≠k->∀t∈hM b,t∉a.looksAt b8)/\∀i a,i<k->b8[i]?=O a->((Region.before b8).getD k 0).testBit i=W∨a.apart b8 b=W:=by
 have d:k<b8.size:=(h4.1 g).1;unfold Bb at h;have:=cS.1 h k (px.2 d);simp only[g,aI]at this;obtain⟨⟨⟨j,_⟩,l⟩,m⟩:=this;refine⟨λe n o=>?_,λi a c p t q d=>?_,λi a r c=>?_⟩
 .have:=Array.all_eq_true_iff_forall_mem.1 j e n;simpa[o]using this
 .have s:i<b8.size:=(h4.1 c).1;have:=cS.1 l i (px.2 s);simp only[c,kS,cS]at this;rcases this with f|f
  .exact p (bV f)
  .have:=f t q;rw[cf.2 d]at this;cases this
 .have:=cS.1 m i (px.2 r);simp only[c,kS]at this;exact this
def Dj(h:i<listed.size):(listed.setIfInBounds i W).getD i F=W:=by simp[h]
def BT(h:i≠j):(listed.setIfInBounds i W).getD j F=listed.getD j F:=getD_set_ne F h
def Ua(hi:i<listed.size)(h:listed.getD i F=F):listed.getD i W=F:=by simp[hi]at h⊢;exact h
def yC(h:t∈hM o):t∈o.looksAt b8:=by
 unfold hM at h;split at h
 .rename_i args c a;split at h
  .rename_i d y b;simp only[iC]at h;subst h;unfold Oper.looksAt;refine List.mem_append_left _ ?_;rw[a];simp only[Op.operands,Call.operands];refine JN.2 ⟨.tmp t,?_,rfl⟩;simp[b]
  .cases h
 .cases h
def tU{o:JB}{d:Nat}:∀{l:Z JB},o∈l->d∈ez o->d∈w7 l
 |[],h,_=>by cases h
 |b::l,h,a=>by
  simp only[w7,dR];rcases cT.1 h with rfl|h
  .exact .inl a
  .exact .inr (tU h a)
def Iw{f:Nat->V α}{r:α}:∀{l:Z Nat},Ku f l=O r->∀i∈l,f i=O r
 |[],h,_,_=>by cases h
 |[j],h,i,hi=>by simp only[iC]at hi;subst hi;exact h|j::a::l,h,i,hi=>by
  obtain⟨b,c⟩:=D7 (show both (f j) (Ku f (a::l))=O r from h);rcases cT.1 hi with rfl|hi
  .exact b
  .exact Iw c i hi
variable(L:cw U T)
include L in
theorem Ub(w:P.follows .mixedOrders=W)(x:bP P E T X){sB:S U.C}(y:(∃k,sB.m k=W)->E.dc=F){id:Nat}{b8:Array JB}{s:S U.C}{K:S U.C->V α}{q:St}{Q:eA->St->Prop}{Zloc:AV->St->Prop}(r:iJ n b8=W)(z:bE sB s)
  (h:DS X esc b8 (b8.size+1) (Array.replicate b8.size F) s K=O out) (A:aX P E T X s q) (B:∀s' t,aX P E T X s' t->bE s s'->K s'=O out->Q .normal t):nL P E w0 I0 n (.region id b8 W) Q Zloc q:=by
 refine MZ w r (λlisted q=>∃m s',aX P E T X s' q/\bE s s'/\DS X esc b8 m listed s' K=O out) ?_ ?_ ⟨_,s,A,.refl s,h⟩
 .rintro listed q ⟨m,s',h1,b,a⟩ i hi;cases m with
  |zero=>cases a
  |succ m=>
   unfold DS at a;split at a
   .rename_i h0;rw[h0]at hi;cases hi
   .rename_i j l h0;rw[h0]at hi;have c:=Iw a i hi;split at c
    .rename_i o u;obtain⟨C,c⟩:=aA c;have v:=qO.1 r o (jP u);simp only[aI]at v;have D:jz b8 o q=O W:=by unfold jz;rw[Option.isNone_iff_eq_none.1 C]
     refine⟨o,u,.inl ⟨D,?_⟩⟩;cases FZ (w0:=w0) (I0:=I0) L x (by rw[b.m,z.m];exact y) v.1 c with
     |one s1 f d e=>exact oe (e q h1) λq1 g=>⟨q1,iz.refl _,m,s1,g.1,b.trans d,f⟩|fO J s1 s2 G H d I e=>
      refine oe (e q h1) λq1 g=>⟨q1,iz.refl _,?_⟩
      rcases g with g|g
      .exact ⟨m,s1,g,b.trans d,G⟩
      .exact ⟨m,s2,g,b.trans I,H⟩
     |dO p s1 f d e=>cases f
    .cases c
 .rintro listed q ⟨m,s',h1,b,a⟩ h0;cases m with
  |zero=>cases a
  |succ m=>unfold DS at a;rw[h0]at a;exact B s' q h1 b a
include L in
theorem mJ(P1:P.follows .mixedOrders=W)(Q1:bP P E T X){sB:S U.C}:Gb P E T X w0 I0 n esc sB out:=by
 intro R1 id b8 hint s K G2 Q Zloc n1 S1 h T1 U1;unfold Ql at h;split at h
 .exact Ub (w0:=w0) (I0:=I0) L P1 Q1 R1 n1 S1 h T1 U1
 unfold MD at h;obtain⟨o0,h⟩:=aA h;split at h;case h_2=>cases h
 rename_i s0 x0;obtain⟨G0,H2,I2,_,_,X1⟩:=M7 x0 T1;obtain⟨st,rc,e0,o1,c2⟩:=Ir (w0:=w0) (I0:=I0) (n:=n) (T:=T) L Q1 (m0:=s0.m) (by rw[I2,S1.m];exact R1) n1 b8.toList 0 [] s0 (λj=>aE) rfl h;have d2:b8.toList.length=b8.size:=aE;rw[cX,d2]at o1;obtain⟨N,U0⟩:∃N,N=b8.size:=⟨_,rfl⟩
 rw[<-U0]at o1;have H0:∀j,j<N->(rc j).f.i=j/\(∃o,b8[j]?=O o/\ZI P E T X w0 I0 n esc b8 j o (st j) (st (j+1)) (rc j))/\∀k,k<j->Pr ((Region.before b8).getD j 0) (rc j) (rc k):=λj J=>by obtain⟨g1,g2,_,J2⟩:=c2 j (dS _) (by rw[d2];omega);exact⟨g1,g2,λk y0=>J2 k (dS _) y0⟩
 clear c2 h;have p:∀j,j<N->QW b8 st rc j:=λj J=>by obtain⟨o,_,g⟩:=(H0 j J).2.1;exact T9 L g
 have p1:∀t s x,aB (st 0).r t=O (s,x)->s<(st 0).tick:=by rw[e0];exact G0.Bj
 have t1:∀t s x,aB (st 0).b t=O (s,x)->s<(st 0).tick:=by rw[e0];exact G0.DU
 have X0:∀t,ed (st 0).tick ((st 0).bQ t)=W:=by rw[e0];exact λt=>(G0.cu t).ed
 have c1:∀d s x,aB (st 0).b d=O (s,x)->x.FE (st 0).tick=W:=by rw[e0];intro d s x c;have:=G0.bG d;rw[c]at this;exact this.FE
 obtain⟨p0,w3⟩:∃p0,p0=(st N).tick+1:=⟨_,rfl⟩
 have J0:∀j,j<=N->(st j).tick<p0:=λj J=>by have:=(ja p j N J (a6 _)).tick;omega
 have K2:∀j,j<N->(rc j).s1.tick<p0:=λj J=>by have:=(p j J).tick;have:=J0 (j+1) J;omega
 obtain⟨z,A0⟩:∃z:S U.C,z={s0 with tick:=p0}:=⟨_,rfl⟩
 have K0:z.tick=p0:=by rw[A0]
 have f2:z.m=s0.m:=by rw[A0]
 have u1:∀t,z.bQ t=(st 0).bQ t:=λt=>by rw[A0,e0];rfl
 have d1:z.b=(st 0).b:=by rw[A0,e0]
 have i2:z.h=(st 0).h:=by rw[A0,e0]
 have zR:∀t s x,aB z.r t=O (s,x)->s<z.tick:=λt s x c=>by have:=p1 t s x (by rw[e0];rw[A0]at c;exact c);have:=J0 0 (dS _);omega
 have L2:aX P E T X z G2:=by
  refine G0.Is (λt=>.inl (by rw[u1,e0])) (λd=>.inl (by rw[d1,e0])) zR (λd s x c=>?_) (λt=>?_) (λd s x c=>?_) λk _ a0=>⟨by rw[<-f2];exact a0,by rw[i2,e0]⟩
  .rw[d1]at c;have:=t1 d s x c;have:=J0 0 (dS _);omega
  .rw[u1,K0];exact hV (je (J0 0 (dS _))) (X0 t)
  .rw[d1]at c;rw[K0];exact B.nv (je (J0 0 (dS _))) (c1 d s x c)
 have B0:∀D t,(sig rc D z N).bQ t=gB D (uA rc t) (λi=>(rc i).val t) ((st 0).bQ t) N:=λD t=>by rw[Iq,u1]
 have C0:∀D d,aB (sig rc D z N).b d=gB D (BR rc d) (λi=>aB (rc i).s1.b d) (aB (st 0).b d) N:=λD d=>by
  rw[M5 d N λi hi C v1=>?_,d1];cases j2:aB (rc i).s1.b d with
  |none=>exact (v1 j2).elim|some e=>obtain ⟨s,x⟩:=e;exact ((p i hi).bx C d s x j2).1
 have e1:∀D k,U.get k (sig rc D z N).h=gB D (Ip rc k) (λi=>U.get k (rc i).s1.h) (U.get k (st 0).h) N:=λD k=>by rw[M6 L,i2]
 have r0:∀D,(sig rc D z N).tick=p0:=λD=>by rw[BQ,K0]
 have t0:∀D,(sig rc D z N).m=s0.m:=λD=>by rw[QU,f2]
 have k2:∀D t s x,aB (sig rc D z N).r t=O (s,x)->s<(sig rc D z N).tick:=λD t s x c=>by rw[r0,<-K0];exact Gg zR (by rw[K0];omega) N t s x c
 have u0:∀d i,BR rc d i=W->(rc i).f.w=W/\d∈(rc i).f.bs:=λd i h=>by simp only[BR,aI]at h;exact⟨h.1,cf.1 h.2⟩
 have N2:∀d i,((rc i).f.w=W/\d∈(rc i).f.bs)↔BR rc d i=W:=λd i=>⟨λh=>by simp[BR,h.1,cf.2 h.2],u0 d i⟩
 have L0:∀k i,Ip rc k i=W->(rc i).f.w=W/\k∈(rc i).f.ks:=λk i h=>by simp only[Ip,aI]at h;exact⟨h.1,cf.1 h.2⟩
 have P2:∀k i,((rc i).f.w=W/\k∈(rc i).f.ks)↔Ip rc k i=W:=λk i=>⟨λh=>by simp[Ip,h.1,cf.2 h.2],L0 k i⟩
 have wr:∀t i,uA rc t i=W↔(rc i).dst=O t∨t∈(rc i).tT:=λt i=>by simp[uA,cf]
 refine MZ P1 n1 (λlisted q=>listed.size=N/\wR b8 listed/\aX P E T X (sig rc (λi=>listed.getD i F) z N) q) ?_ ?_ ?_
 .
  intro listed q ⟨f1,x0,h0⟩ j J;obtain⟨Q2,o,I,x3⟩:=mem_ready.1 J;have y:j<N:=by rw[U0];exact (h4.1 I).1
  have i0:listed.getD j F=F:=Tx Q2;obtain⟨_,⟨y3,l2,R2⟩,x1⟩:=H0 j y;rw[I]at l2;cases l2;refine⟨o,I,?_⟩;have m2:∀i,i<j->listed.getD i F=F->((Region.before b8).getD j 0).testBit i=F:=λi hi l=>by
   cases f0:((Region.before b8).getD j 0).testBit i with
   |false=>rfl|true=>rw[Hx x0 (uY f0) J]at l;cases l
  have y1:∀i,j<i->listed.getD i F=W->((Region.before b8).getD i 0).testBit j=F:=λi hi l=>by
   cases f0:((Region.before b8).getD i 0).testBit j with
   |false=>rfl|true=>rw[uZ x0 (uY f0) (Fe l)]at i0;cases i0
  have n2:∀i,i<N->(rc i).f.i=i:=λi hi=>(H0 i hi).1;have o2:∀i,i<j->listed.getD i F=F->((rc i).f.w=W∨(rc j).f.w=W)->(∀d,d∈(rc j).f.bs->d∉(rc i).f.bs)/\∀k,k∈(rc j).f.ks->k∉(rc i).f.ks:=λi hi l C=>by
   rcases(x1 i hi).1 with e|e
   .rw[n2 i M,m2 i hi l]at e;cases e
   .exact e (by simpa[or_comm]using C)
  have j0:∀i,j<i->i<N->listed.getD i F=W->((rc i).f.w=W∨(rc j).f.w=W)->(∀d,d∈(rc i).f.bs->d∉(rc j).f.bs)/\∀k,k∈(rc i).f.ks->k∉(rc j).f.ks:=λi hi A1 l C=>by
   rcases((H0 i A1).2.2 j hi).1 with e|e
   .rw[n2 j y,y1 i hi l]at e;cases e
   .exact e (by simpa using C)
  have i1:∀i,i<N->∃H,b8[i]?=O H/\(rc i).dst=H.dst/\∀t∈(rc i).tT,t∈hM H:=λi hi=>by
   obtain⟨H,h1,f⟩:=(H0 i hi).2.1;refine⟨H,h1,?_⟩;cases f with
   |run _ _ g l0=>exact ⟨g,λt m=>by rw[<-l0];exact m⟩|skip _ _ g l0=>exact ⟨g,λt m=>by rw[l0]at m;cases m⟩
  have S2:(rc j).dst=o.dst:=by obtain⟨H,h1,f,_⟩:=i1 j y;rw[I]at h1;cases h1;exact f
  have T2:∀t∈(rc j).tT,t∈hM o:=by obtain⟨H,h1,_,f⟩:=i1 j y;rw[I]at h1;cases h1;exact f
  have U2:∀i,i<j->listed.getD i F=F->∀t,uA rc t i=W->t∉o.looksAt b8:=λi hi l t m p2=>by
   obtain⟨H,h1,f,G⟩:=i1 i M;rcases(wr t i).1 m with m|m
   .rcases (gN o0 I).2.2 i H hi h1 with e|e
    .rw[m2 i hi l]at e;cases e
    .exact (E6 e).1 t (by rw[<-f];exact m) p2
   .exact (gN o0 h1).2.1 j o I M t (G t m) p2
  have q2:∀i,j<i->i<N->listed.getD i F=W->∀t,uA rc t i=W->t∉o.looksAt b8/\uA rc t j=F:=λi hi A1 l t m=>by
   obtain⟨H,h1,f,G⟩:=i1 i A1;have A3:H.apart b8 o=W∨o.apart b8 H=W:=by
    rcases(gN o0 h1).2.2 j o hi I with e|e
    .rw[y1 i hi l]at e;cases e
    .exact .inr e
   have e:o.apart b8 H=W:=by
    rcases(gN o0 h1).2.2 j o hi I with e|e
    .rw[y1 i hi l]at e;cases e
    .exact e
   have s2:t∉o.looksAt b8:=by
    rcases(wr t i).1 m with m|m
    .exact (E6 e).2.2 t (by rw[<-f];exact m)
    .exact (gN o0 h1).2.1 j o I M t (G t m)
   refine⟨s2,?_⟩;cases v0:uA rc t j with
   |false=>rfl|true=>
    exfalso;rcases(wr t j).1 v0 with v0|v0
    .rw[S2]at v0;rcases(wr t i).1 m with m|m
     .exact (E6 e).2.1 t v0 (by rw[<-f];exact m)
     .exact (E6 e).1 t v0 (yC (G t m))
    .exact s2 (yC (T2 t v0))
  have t2:∀t,t∈o.looksAt b8->(sig rc (λi=>listed.getD i F) z N).bQ t=(st j).bQ t:=λt m=>by
   rw[B0,vM p t j (je y),<-vI (je y)];refine gC λi hi C=>?_;rcases qX i j with h|h|h
   .rw[jg h];cases l:listed.getD i F with
    |true=>rfl|false=>exact (U2 i h l t C m).elim
   .subst h;rw[i0];simp
   .rw[kd M];cases l:listed.getD i F with
    |false=>rfl|true=>exact ((q2 i h hi l t C).1 m).elim
  have u2:∀d,d∈(rc j).f.bs->aB (sig rc (λi=>listed.getD i F) z N).b d=aB (st j).b d:=λd g=>by
   rw[C0,vN p d j (je y),<-vI (je y)];refine gC λi hi C=>?_;obtain⟨N0,P0⟩:=u0 d i C;rcases qX i j with h|h|h
   .rw[jg h];cases l:listed.getD i F with
    |true=>rfl|false=>exact ((o2 i h l (.inl N0)).1 d g P0).elim
   .subst h;rw[i0];simp
   .rw[kd M];cases l:listed.getD i F with
    |false=>rfl|true=>exact ((j0 i h hi l (.inl N0)).1 d P0 g).elim
  have X2:∀k,k∈(rc j).f.ks->U.get k (sig rc (λi=>listed.getD i F) z N).h=U.get k (st j).h:=λk y0=>by
   rw[e1,Ge p k j (je y),<-vI (je y)];refine gC λi hi C=>?_;obtain⟨N0,P0⟩:=L0 k i C;rcases qX i j with h|h|h
   .rw[jg h];cases l:listed.getD i F with
    |true=>rfl|false=>exact ((o2 i h l (.inl N0)).2 k y0 P0).elim
   .subst h;rw[i0];simp
   .rw[kd M];cases l:listed.getD i F with
    |false=>rfl|true=>exact ((j0 i h hi l (.inl N0)).2 k P0 y0).elim
  have D':∀i,i≠j->(listed.setIfInBounds j W).getD i F=listed.getD i F:=λi hi=>BT (dz hi);have B1:(listed.setIfInBounds j W).getD j F=W:=Dj (by rw[f1];exact y);have C1:∀t,(sig rc (λi=>(listed.setIfInBounds j W).getD i F) z N).bQ t=if uA rc t j=W then(rc j).val t else(sig rc (λi=>listed.getD i F) z N).bQ t:=λt=>by rw[B0,B0,sc (D:=λi=>listed.getD i F) D' B1 y λA i h1 f G Q0=>?_];rw[(q2 i h1 f G t Q0).2]at A;cases A
  have j1:∀d,aB (sig rc (λi=>(listed.setIfInBounds j W).getD i F) z N).b d=if(rc j).f.w=W/\d∈(rc j).f.bs then aB (rc j).s1.b d else aB (sig rc (λi=>listed.getD i F) z N).b d:=λd=>by
   rw[C0,C0,sc (D:=λi=>listed.getD i F) D' B1 y λA i h1 f G Q0=>?_]
   .by_cases e:(rc j).f.w=W/\d∈(rc j).f.bs
    .rw[aj e,aj ((N2 d j).1 e)]
    .rw[ai e,ai λh=>e (u0 d j h)]
   .obtain ⟨a3,D1⟩:=u0 d j A;obtain⟨E1,G1⟩:=u0 d i Q0;exact(j0 i h1 f G (.inl E1)).1 d G1 D1
  have v2:∀k,U.get k (sig rc (λi=>(listed.setIfInBounds j W).getD i F) z N).h=if(rc j).f.w=W/\k∈(rc j).f.ks then U.get k (rc j).s1.h else U.get k (sig rc (λi=>listed.getD i F) z N).h:=λk=>by
   rw[e1,e1,sc (D:=λi=>listed.getD i F) D' B1 y λA i h1 f G Q0=>?_]
   .by_cases e:(rc j).f.w=W/\k∈(rc j).f.ks
    .rw[aj e,aj ((P2 k j).1 e)]
    .rw[ai e,ai λh=>e (L0 k j h)]
   .obtain ⟨a3,D1⟩:=L0 k j A;obtain⟨E1,G1⟩:=L0 k i Q0;exact(j0 i h1 f G (.inl E1)).2 k G1 D1
  have x2:=x0.set J;have y2:(listed.setIfInBounds j W).size=N:=by simp[f1]
  have A2:∀b,vJ P E T b8 o (st j) b->jz b8 o q=O b:=λb C=>C _ _ _ q λt m=>by rw[<-t2 t m];exact h0.cu t
  cases R2 with
  |skip c0 d0 g l0 H1 D0 B2 C b3=>
   have A:∀t,uA rc t j=W↔o.dst=O t:=λt=>by rw[wr,l0,g];simp
   refine .inr ⟨A2 _ C,y2,x2,?_⟩;have c3:=h0.put o.dst (r:=o6) (u:=.fK []) (.fK [] [] rfl λi r q I1=>by simp at I1);refine c3.Is (λt=>.inl ?_) (λd=>.inl ?_) (k2 _) (λd s x c=>?_) (λt=>?_) (λd s x c=>?_) λk _ a0=>⟨?_,?_⟩
   .rw[C1,rG];by_cases e:o.dst=O t
    .rw[aj ((A t).2 e),aj e,wE.val,g,aj e,B2,rG,aj e]
    .rw[ai (λh=>e ((A t).1 h)),ai e]
   .rw[j1,D0];simp;cases o.dst<;>rfl
   .rw[j1,D0]at c;simp only[iA,false_and,cG]at c;have:=h0.DU d s x c;rw[r0]at this⊢;exact this
   .rw[C1];by_cases e:o.dst=O t
    .rw[aj ((A t).2 e),wE.val,g,aj e,B2,rG,aj e];rfl
    .rw[ai (λh=>e ((A t).1 h))];have:=(h0.cu t).ed;rw[r0]at this⊢;exact this
   .rw[j1,D0]at c;simp only[iA,false_and,cG]at c;have f0:=h0.bG d;rw[c]at f0;have:=f0.FE;rw[r0]at this⊢;exact this
   .rw[t0]at a0;cases o.dst<;>(simp only[S.put];rw[t0];exact a0)
   .rw[v2,D0];simp;cases o.dst<;>rfl
  |run c0 d0 g l0 H1 D0 d3 e3 f3 C b3=>
   have i3:∀t,(sig rc (λi=>(listed.setIfInBounds j W).getD i F) z N).bQ t=if o.dst=O t then(rc j).s1.bQ t else if t∈hM o then .none else(sig rc (λi=>listed.getD i F) z N).bQ t:=λt=>by
    rw[C1];by_cases e:o.dst=O t
    .rw[aj ((wr t j).2 (.inl (by rw[g];exact e))),aj e,wE.val,g,aj e]
    .rw[ai e];by_cases k1:t∈hM o
     .rw[aj ((wr t j).2 (.inr (by rw[l0];exact k1))),aj k1,wE.val,g,ai e]
     .rw[ai k1,ai λh=>by
       rcases(wr t j).1 h with h|h
       .rw[g]at h;exact e h
       .rw[l0]at h;exact k1 h]
   refine .inl ⟨A2 _ C,?_⟩;have J1:∀d∈ez o,d∈(rc j).f.bs:=λd g=>by rw[D0];exact List.mem_append_right _ g
   have C2:(st 0).tick<=c0.tick:=fk (ja p 0 j (dS _) (je y)).tick d0.tick;have D2:∀i,i<j->(rc i).s1.tick<=c0.tick:=λi hi=>fk (vO p hi (je y)) d0.tick;have pl:∀t,(c0.only (iN b8 o) (rc j).f.bs (rc j).f.ks).bQ t=if t∈iN b8 o then(st j).bQ t else .none:=λt=>by
    rw[<-d0.bQ];unfold S.bQ S.only;simp only[jY];by_cases e:t∈iN b8 o
    .simp[e]
    .simp[e]
   have R0:∀d,aB (c0.only (iN b8 o) (rc j).f.bs (rc j).f.ks).b d=if d∈(rc j).f.bs then aB (st j).b d else Y:=λd=>by rw[<-d0.b];unfold S.only;simp only[jY]
   have E2:∀k,(c0.only (iN b8 o) (rc j).f.bs (rc j).f.ks).m k=(s0.m k&&ig k (rc j).f.ks):=λk=>by
    have:c0.m=s0.m:=by rw[d0.m,(ja p 0 j (dS _) (je y)).m,e0]
    simp only[S.only,this]
   have j3:aX P E T X (c0.only (iN b8 o) (rc j).f.bs (rc j).f.ks) q:=by
    refine h0.Is (λt=>?_) (λd=>?_) (λt s x c=>?_) (λd s x c=>?_) (λt=>?_) (λd s x c=>?_) λk _ a0=>?_
    .rw[pl];by_cases e:t∈iN b8 o
     .rw[aj e];exact .inl (t2 t e).symm
     .rw[ai e];exact .inr rfl
    .rw[R0];by_cases e:d∈(rc j).f.bs
     .rw[aj e];exact .inl (u2 d e).symm
     .rw[ai e];exact .inr rfl
    .simp only[S.only,jY]at c;split at c
     .exact d0.Bj (Gf p p1 j (je y)) t s x c
     .cases c
    .rw[R0]at c;split at c
     .have:=M8 p t1 (je y) d s x c;have:=d0.tick;show s<c0.tick;omega
     .cases c
    .rw[pl];split
     .exact hV d0.tick (It p X0 (je y) t)
     .rfl
    .rw[R0]at c;split at c
     .exact B.nv d0.tick (Iu p c1 (je y) d s x c)
     .cases c
    .rw[E2]at a0;simp only[aI]at a0;refine⟨by rw[t0];exact a0.1,?_⟩;rw[X2 k (cf.1 a0.2),<-d0.h];rfl
   intro a w k3 R;refine lZ (λa' w' ⟨q1,g1,g2,l3⟩=>⟨q1,g1,y2,x2,?_⟩) (f3 q j3 a w k3 R);refine OA h0 g2 l3 e3 d3 (λk=>by rw[E2,t0]) (λd g=>by rw[R0,aj g,u2 d g]) (λd g=>by rw[R0,ai g]) J1 i3 j1 v2 (by rw[t0,t0]) (by rw[r0,r0]) (by rw[r0];exact je (K2 j y)) (k2 _) ?_ ?_ ?_ ?_
   .intro A t m3 d g g0;show ed c0.tick _=W;rw[B0]at g0⊢;rcases jZ (D:=λi=>listed.getD i F) (wr:=uA rc t) (v:=λi=>(rc i).val t) (b0:=(st 0).bQ t) (N:=N)with e|⟨i,h1,f,G,e⟩
    .rw[e];exact hV C2 (X0 t)
    .rw[e]at g0⊢;obtain⟨l1,n3⟩:=(p i h1).rg t G;rcases qX i j with h|h|h
     .exact hV (D2 i h) n3
     .subst h;rw[i0]at f;cases f
     .exact ((j0 i h h1 f (.inr A)).1 d (l1 d g0) g).elim
   .intro A d st' x c o3 d' S0 E0;show x.FE c0.tick=W;rw[C0]at c;rcases jZ (D:=λi=>listed.getD i F) (wr:=BR rc d) (v:=λi=>aB (rc i).s1.b d) (b0:=aB (st 0).b d) (N:=N)with e|⟨i,h1,f,G,e⟩
    .rw[e]at c;exact B.nv C2 (c1 d st' x c)
    .rw[e]at c;obtain⟨K1,p3⟩:=u0 d i G;obtain⟨_,_,m1,q3⟩:=(p i h1).bx K1 d st' x c;rcases qX i j with h|h|h
     .exact B.nv (D2 i h) q3
     .subst h;rw[i0]at f;cases f
     .exact ((j0 i h h1 f (.inr A)).1 d' (m1 d' E0) S0).elim
   .intro A t m3 d g;cases g0:((sig rc (λi=>listed.getD i F) z N).bQ t).aT d with
    |false=>rfl|true=>
     exfalso;rw[B0]at g0;rcases jZ (D:=λi=>listed.getD i F) (wr:=uA rc t) (v:=λi=>(rc i).val t) (b0:=(st 0).bQ t) (N:=N)with e|⟨i,h1,f,G,e⟩
     .rw[e,e0]at g0;have:d∈w7 b8.toList:=by exact tU (by simpa using jP I) g
      rw[(X1 d this).1 t]at g0;cases g0
     .rw[e]at g0;have l1:=((p i h1).rg t G).1 d g0;rcases qX i j with h|h|h
      .exact (x1 i h).2 d (by rw[H1];exact g) l1
      .subst h;rw[i0]at f;cases f
      .exact (j0 i h h1 f (.inr A)).1 d l1 (J1 d g)
   .intro A d st' x c o3 d' S0;cases E0:x.aT d' with
    |false=>rfl|true=>
     exfalso;rw[C0]at c;rcases jZ (D:=λi=>listed.getD i F) (wr:=BR rc d) (v:=λi=>aB (rc i).s1.b d) (b0:=aB (st 0).b d) (N:=N)with e|⟨i,h1,f,G,e⟩
     .rw[e,e0]at c;have:d'∈w7 b8.toList:=by exact tU (by simpa using jP I) S0
      rw[(X1 d' this).2 d st' x c]at E0;cases E0
     .rw[e]at c;obtain⟨K1,p3⟩:=u0 d i G;obtain⟨_,_,m1,_⟩:=(p i h1).bx K1 d st' x c;rcases qX i j with h|h|h
      .exact (x1 i h).2 d' (by rw[H1];exact S0) (m1 d' E0)
      .subst h;rw[i0]at f;cases f
      .exact (j0 i h h1 f (.inr A)).1 d' (m1 d' E0) (J1 d' S0)
 .
  intro listed q ⟨f1,x0,h0⟩ I1;have all:∀i,i<N->listed.getD i F=W:=by
   intro i;induction i using Nat.strongRecOn with
   |ind i s3=>
    intro hi;cases l:listed.getD i F with
    |true=>rfl|false=>
     exfalso;have T0:i<b8.size:=by rw[<-U0];exact hi
     have:i∈Region.ready .any b8 listed:=mem_ready.2 ⟨Ua (by rw[f1];exact hi) l,b8[i],by simp[T0],λe L1 f0=>s3 e.on ((gN o0 (by simp[T0])).1 e L1 f0) (by have:=(gN o0 (k:=i) (by simp[T0])).1 e L1 f0;omega)⟩;rw[I1]at this;cases this
  have n0:=a6 N;have t3:∀t,(st N).bQ t=(sig rc (λi=>listed.getD i F) z N).bQ t:=λt=>by rw[B0,vM p t N n0];exact gC λi hi _=>(all i hi).symm
  have u3:∀d,aB (st N).b d=aB (sig rc (λi=>listed.getD i F) z N).b d:=λd=>by rw[C0,vN p d N n0];exact gC λi hi _=>(all i hi).symm
  have v3:∀k,U.get k (st N).h=U.get k (sig rc (λi=>listed.getD i F) z N).h:=λk=>by rw[e1,Ge p k N n0];exact gC λi hi _=>(all i hi).symm
  have N1:=ja p 0 N (dS _) n0;rw[e0]at N1;refine U1 (st N) q ?_ (H2.trans N1) o1;exact h0.Is (λt=>.inl (t3 t)) (λd=>.inl (u3 d)) (Gf p p1 N n0) (λd s x c=>M8 p t1 n0 d s x c) (λt=>It p X0 n0 t) (λd s x c=>Iu p c1 n0 d s x c) λk _ a0=>⟨by rw[t0,<-N1.m];exact a0,v3 k⟩
 .
  refine⟨by simp[U0],λk o y0 v1 e L1 f0=>?_,?_⟩
  .have T0:k<b8.size:=(h4.1 y0).1;simp[T0]at v1
  .rw[Iv N λi hi=>by have:i<b8.size:=M
                     simp[this]]
   exact L2
end
end Go.X
