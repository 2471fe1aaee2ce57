import Derived.Test.YticakdhfjeljkaaGreatDoorZ5
set_option linter.all false
open Option renaming some->O,none->Y
open Bool renaming true->W,false->F
namespace Go.X
open Go Go.Ev
variable{f:bH}{args:Array ah}{argTypes:Array an}{β:Type}{g:Nat->Nat}{tick d:Nat}{u:cH}{dst:V Nat}{a:Array β}
section
variable{P:ai}{E:cd}{U:cp}{T:dt U.C}{X:gy U}{w0:af}{I0:aA}{n:Nat}{o:aC}{s:S U.C}{q:St}{α:Type}{out:α}{fz:aa}{kx:o8 U->S U.C->V α}{K:S U.C->V α}{esc:Z (Nat×Nat)}
variable(L:cD U T)
def CN{rs:Z RK}{a:V (an×Ty)}{r:jm U a (HL U.C (rs.map RK.ty))}{f:o8 U->V α}{g:HL U.C (rs.map RK.ty)->V α}(h:tM a r f g=O out):
  (∃y,qa T rs a r=.ret (db T rs y)/\g y=O out)∨∃b t e,a=O (b,t)/\qa T rs a r=.ea (.mR b (enc T t e))/\f ⟨b,t,e⟩=O out:=by
 cases a with
 |none=>exact .inl ⟨r,rfl,h⟩|some p=>
  obtain⟨b,t⟩:=p;have d:∃c:Except (bL U.C t) (HL U.C (rs.map RK.ty)),c=r:=⟨r,rfl⟩
  obtain⟨c,i⟩:=d;subst i;cases c with
  |ok y=>exact .inl ⟨y,rfl,h⟩|error e=>exact .inr ⟨b,t,e,rfl,rfl,h⟩
def dL.Ru {K:St->Prop} (h:jS P E w0 I0 n o q K λ_ _=>False):dL P E w0 I0 n o q K:=λa w b c=>h a w b c λx v s' a' w' I' e d=>d.elim
theorem nV:∀{n:Nat},Js s n=W->∀k,k<n->s.m k=W
 |0,_,k,a=>M|n+1,h,k,a=>by
  simp only[Js,aP]at h;by_cases e:k=n
  grind
  .exact nV h.2 k M
def wF{x:ah}{a:Z AV}{q b:St}(h:q.ev x=.val (.fn f a))(c:lG q b):jt b x=O (f,a):=by have:=Cs (c x (.fn f a) (by rw[h];rfl));simp[jt,this]
theorem CO{x:ah}(b:o.op=.call {callee:=.value x,args:=args,argTypes:=argTypes})(h:fA X s o.op=F):(∀y∈args.toList,mm (s.ev y)=F)/\∀f caps,s.ev x=.fn f caps->∀c∈X.lB f,((∀a,c.run≠.st a)/\∀a,c.run≠.rd a)/\c.rs.any RK.gl=F:=by
 simp only[b,fA,tB,ER]at h;refine⟨λy d=>by grind,λf caps e c g=>?_⟩
 grind
include L in
theorem CP:∀(k:Nat)(t:Ty)(x:bL U.C t),ha U k t=W->(hp U k t).all xY=W->∀c∈(enc T t x).cells,∃v,c=.fl v
 |k,t,x,d,e,c,a=>by
  by_cases b:a7 t=W
  .cases t with
   |struct m=>
    cases k with
    |zero=>simp[ha]at d|succ k=>
     simp only[ha,di]at d;have g:∀(ts:Z Ty)(y:HL U.C ts),(∀t∈ts,ha U k t=W)->(kE (hp U k) ts).all xY=W->∀c∈jZ T ts y,∃v,c=.fl v:=by
      intro ts;induction ts with
      |nil=>intro y _ _ c a;simp[jZ]at a|cons t ts i=>
       intro y h f c a;simp only[kE,List.all_append,aP]at f;simp only[jZ]at a;rcases fK.1 a with a|a
       .exact CP k t _ (h t aH) f.1 c a
       grind
     simp only[enc,AV.cells]at a;rw[L.cells]at a;exact g _ (U.un m x) d e c a
   |_=>simp[a7]at b
  .have b:a7 t=F:=by grind
   rw[jM b]at a;simp only[gD]at a;subst a;have:xY t=W:=by cases t<;>first|(simp[a7]at b;done)|(cases k<;>simpa[hp]using e)
   cases t<;>first|exact ⟨_,rfl⟩|cases this
include L in
theorem CQ:∀(rs:Z RK)(y:HL U.C (rs.map RK.ty)),rs.all (Zi U)=W->∀r∈db T rs y,Ha r
 |[],y,_,r,a=>by simp[db]at a|.v t::rs,y,h,r,a=>by
  simp only[tC,aP]at h;simp only[db,fb]at a;rcases a with rfl|a
  .have:xY t=W:=h.1;show∃v,_=AV.fl v;cases t<;>first|exact ⟨_,rfl⟩|cases this
  .exact CQ rs _ h.2 r a
 |.bR t e::rs,y,h,r,a=>by
  simp only[tC,aP]at h;simp only[db,fb]at a;rcases a with rfl|a
  .intro x b c d;obtain⟨z,_,rfl⟩:=gC.1 b;exact CP L D t z (iF L t) h.1 c d
  .exact CQ rs _ h.2 r a
include L in
theorem SQ(D:bJ P E T X)(I:(∃k,s.m k=W)->E.cT=F)(J:ba n o=W){x:ah}(A:o.op=.call {callee:=.value x,args:=args,argTypes:=argTypes}){caps:Z (R U.C)}(Q:s.ev x=.fn f caps)
  {c:bZ U} (a0:c∈X.lB f) (h:r4 X kx fz s o.dst c caps args.toList K=O out):ew P E T X w0 I0 n fz o s kx K out:=by
 have N0:ca x=W:=bS J (by simp[A,Op.operands,Call.operands]);have f0:∀y∈args.toList,ca y=W:=λy c1=>bS J (by grind [Op.operands,Call.operands]);have G:=D.lB f c a0;have g0:∀q,aU P E T X s q->∃v,q.ev x=.val (.fn f v)/\kj P E T caps v:=λq g=>by have w:=g.ev x N0;rw[Q]at w;exact uM w
 have b0:=λm=>(CO (X:=X) (s:=s) A m)
 have d1:(∃k,s.m k=W)->E.cT=F:=I;obtain⟨ps,rs,ea,N⟩:=c;have j0:∀(P0 s2:S U.C)(vs:HL U.C ps)(r:jm U ea (HL U.C (rs.map RK.ty))),bw s s2->tM ea r (λp=>kx p s2) (λy=>rZ s2 o.dst rs y K)=O out->
   (∀q,aU P E T X s q->∃b j,jc P E w0 I0 n q b/\aU P E T X s2 j/\(fz=F->Aq s q b)/\(fA X s o.op=F->b=q/\j.a=b.a/\j.u=b.u)/\j.r=b.r/\j.b=b.b/\j.g=b.g/\j.df=b.df/\(∀k i,k<U.nk->s.m k=F->j.a (dY k i)=b.a (dY k i)/\j.u (dY k i)=b.u (dY k i))/\∀(c0:St->Prop)(Zloc:AV->St->Prop),PG (qa T rs ea r) (λQ0=>c0 (j.take o.dst Q0)) (λy=>Zloc y j)->jS P E w0 I0 n o b c0 Zloc)->ew P E T X w0 I0 n fz o s kx K out:=by
  intro P0 s2 vs r H0 h B;rcases CN (T:=T) h with⟨y,k0,h⟩|⟨R0,t,e,rfl,k0,h⟩
  .obtain ⟨S0,h,l0,m⟩:=CM (P:=P) (E:=E) (T:=T) G.rs h;refine .one _ h (H0.trans l0) λq g=>?_;obtain⟨b,j,m0,a2,a3,a4,a5,n0,o0,J0,a9,p0⟩:=B q g;obtain⟨q0,b2,l,r0⟩:=m j a2;refine m0.nv (dL.Ru (p0 _ _ ?_));rw[k0];refine⟨q0,λK0=>OB A (a3 K0) (λt m=>by grind) (λd d0=>by rw[(l.b d d0).1,(l.b d d0).2,n0,o0];grind) (λk i C hm=>by rw[l.a,l.u];grind) (by rw[l.df,J0]) λh0=>?_⟩;obtain⟨e1,e2,s0⟩:=a4 h0;have t0:=((b0 h0).2 f caps Q _ a0).2;obtain⟨u0,x0⟩:=r0 t0;exact⟨e1,by rw[u0,n0],by rw[x0,o0],by rw[l.a,e2],by rw[l.u,s0]⟩
  .refine .ea _ _ h H0 λq g=>?_;obtain⟨b,j,m0,a2,a3,a4,a5,n0,o0,J0,a9,p0⟩:=B q g;refine⟨G.ea R0 t rfl,m0.Mr (p0 _ _ ?_)⟩;rw[k0];exact⟨a2,rfl⟩
 cases N with
 |pure N=>
  simp only[r4]at h;cases i0:(caps.isEmpty&&(rs.all (Zi U)&&ea.isNone))with
  |true=>
   rw[i0]at h;simp only[aW]at h;simp only[aP,NJ,Option.isNone_iff_eq_none]at i0;obtain⟨T0,U0,X0⟩:=i0;subst T0;subst X0;obtain⟨vs,h,hv⟩:=FD (P:=P) (E:=E) (T:=T) L D _ _ h f0;obtain⟨r,w,h⟩:=bind_some h;have h:rZ s o.dst rs r K=O out:=h;obtain⟨S0,h,l0,m⟩:=CM (P:=P) (E:=E) (T:=T) G.rs h;refine .one _ h l0 λq g=>?_;obtain⟨v,e1,e2⟩:=g0 q g;have s0:v=[]:=by
    have:=e2.1
    grind
   subst s0;obtain⟨xs,g1,H⟩:=hv q g;obtain⟨q0,b2,l,r0⟩:=m q g;refine L8 A J (by simp[jt,e1]) g1 (G.tr vs xs r H w) (CQ L rs r U0) ⟨q0,λK0=>OB A (.refl s q) b2 l.b (λk i _ _=>by rw[l.a,l.u];grind) l.df λh0=>?_⟩;have t0:=((b0 h0).2 f [] Q _ a0).2;obtain⟨u0,x0⟩:=r0 t0;exact⟨rfl,u0,x0,l.a,l.u⟩
  |false=>rw[i0]at h;simp only[aX]at h;obtain⟨s',vs,h,hm,d0,B⟩:=qd (P:=P) (E:=E) (T:=T) (w0:=w0) (I0:=I0) (n:=n) L D _ _ _ _ I h f0;obtain⟨r,w,h⟩:=bind_some h;refine j0 s' s' vs r hm h λq g=>?_;obtain⟨v,e1,e2⟩:=g0 q g;obtain⟨b,xs,g1,H⟩:=B q v g e2;exact⟨b,b,g1.oP,g1.oM,g1.fr,λm=>⟨(g1.still (b0 m).1).1,rfl,rfl⟩,rfl,rfl,rfl,rfl,λ_ _ _ _=>⟨rfl,rfl⟩,λc0 Zloc e0=>uv A J (wF e1 g1.jO) g1.Ek (G.tr vs _ r H w) e0⟩
 |rd N=>
  simp only[r4]at h;obtain⟨y0,h⟩:=az h;obtain⟨C,h⟩:=az h;simp only[aP,jq]at C;have A0:=nV C.2;obtain⟨s',vs,h,hm,d0,B⟩:=qd (P:=P) (E:=E) (T:=T) (w0:=w0) (I0:=I0) (n:=n) L D _ _ _ _ I h f0;obtain⟨r,w,h⟩:=bind_some h;refine j0 s' s' vs r hm h λq g=>?_;obtain⟨v,e1,e2⟩:=g0 q g;obtain⟨b,xs,g1,H⟩:=B q v g e2;have B0:fB T bF s'.h b.a b.u:=λk z _ i=>g1.oM.heap k z (by rw[hm.m];grind) i;obtain⟨C0,D0,f1,E0⟩:=G.tr vs _ _ r _ _ H B0 w;refine⟨b,{b with a:=C0,u:=D0},g1.oP,g1.oM.rk (hv:=s'.hv) (bq _) (λk z G0 i=>f1 k z rfl i),g1.fr,λm=>?_,rfl,rfl,rfl,rfl,λk i z G0=>?_,λc0 Zloc e0=>rR A J (I ⟨0,A0 0 C.1⟩) (D.ro y0) (wF e1 g1.jO) g1.Ek E0 e0⟩
  .exact absurd rfl (((b0 m).2 f caps Q _ a0).1.2 N)
  grind
 |st N=>
  simp only[r4]at h;obtain⟨y0,h⟩:=az h;obtain⟨C,h⟩:=az h;simp only[aP,jq]at C;have A0:=nV C.2;obtain⟨s',vs,h,hm,d0,B⟩:=qd (P:=P) (E:=E) (T:=T) (w0:=w0) (I0:=I0) (n:=n) L D _ _ _ _ I h f0;obtain⟨r,w,h⟩:=bind_some h;obtain⟨r,L0⟩:=r;refine j0 s' (s'.Hj L0) vs r (hm.trans (uH _)) h λq g=>?_;obtain⟨v,e1,e2⟩:=g0 q g;obtain⟨b,xs,g1,H⟩:=B q v g e2;have B0:fB T bF s'.h b.a b.u:=λk z _ i=>g1.oM.heap k z (by rw[hm.m];grind) i;obtain⟨C0,D0,f1,E0⟩:=G.tr vs _ _ r L0 _ _ H B0 w;refine⟨b,{b with a:=C0,u:=D0},g1.oP,g1.oM.rk (cO _) (λk z G0 i=>f1 k z rfl i),g1.fr,λm=>?_,rfl,rfl,rfl,rfl,λk i z G0=>?_,λc0 Zloc e0=>rR A J (I ⟨0,A0 0 C.1⟩) (D.ro y0) (wF e1 g1.jO) g1.Ek E0 e0⟩
  .exact absurd rfl (((b0 m).2 f caps Q _ a0).1.1 N)
  grind
theorem CR{X:gy U}{dst:V Nat}{caps:Z (R U.C)}{args:Z ah}:∀{l:Z (bZ U)},B8 X kx fz s dst caps args K l=O out->∃c∈l,r4 X kx fz s dst c caps args K=O out
 |[],h=>by simp[B8]at h|[c],h=>⟨c,aH,h⟩
 |c::a::l,h=>by
  have h:(bif Oe X s c.ps args then r4 X kx fz s dst c caps args K else B8 X kx fz s dst caps args K (a::l))=O out:=h;cases b:Oe X s c.ps args with
  |true=>grind|false=>
   rw[b]at h;obtain⟨d,e,f⟩:=CR (l:=a::l) h
   grind
theorem SR(b:Ty)(y:bL U.C b):∃u:cH,(∀(q:St)(dst:V Nat),q.take dst (j6 T b y)=q.put dst u)/\∀bx g tick,bA P E T bx g tick (Sd b y) u:=by
 have r:∀(b:Ty)(y:bL U.C b),∃e:Z AV,j6 T b y=e.map .v:=λb y=>by
  induction b with
  |iz t u _ n=>obtain⟨e,h⟩:=n y.2;exact⟨enc T t y.1::e,by simp[j6,h]⟩|unit=>exact ⟨[],rfl⟩|_=>exact ⟨[_],rfl⟩
 have s:∀(e:Z AV)(q:St)(d j:Nat),q.cS d j (e.map .v)=(e.map .val,q):=by
  intro e;induction e with
  |nil=>intro q d j;rfl|cons a l n=>grind [St.cS,St.hV]
 obtain⟨e,c⟩:=r b y;match e,c with
 |[a],c=>
  refine⟨.val a,λq dst=>by rw[c];cases dst<;>rfl,λbx g tick=>?_⟩;cases b with
  |iz t u=>simp only[j6,gb,zb,ET]at c;cases u<;>simp[j6]at c;show bA P E T bx g tick (bif fD t&&F then .gw [.val t y.1,.val .unit y.2]else .none) _;rw[Bool.and_false];exact .none _
  |unit=>cases c
  |fn _ _=>exact .none _|lP _ _=>exact .none _
  |iC _ _=>exact .none _|cell _=>exact .none _
  |An k off=>
   have:enc T (.An k off) y=a:=by simpa[j6]using c
   subst this;exact bn (t:=.An k off) rfl
  |NY f t=>
   have:enc T (.NY f t) y=a:=by simpa[j6]using c
   subst this;show bA P E T bx g tick (bif fD (.NY f t)then .val (.NY f t) y else .none) _;cases i:fD (.NY f t)with
   |true=>exact bn i|false=>exact .none _
  |int k=>
   have:AV.fl (.int k y)=a:=by simpa[j6,enc]using c
   subst this;exact bn (t:=.int k) rfl
  |bool=>
   have:AV.fl (.bool y)=a:=by simpa[j6,enc]using c
   subst this;exact bn (t:=.bool) rfl
  |str=>
   have:enc T .str y=a:=by simpa[j6]using c
   subst this;exact bn (t:=.str) rfl
  |struct m=>
   have:enc T (.struct m) y=a:=by simpa[j6]using c
   subst this;exact bn (t:=.struct m) rfl
  |ptr m=>
   have:enc T (.ptr m) y=a:=by simpa[j6]using c
   subst this;exact bn (t:=.ptr m) rfl
  |hs m=>
   have:enc T (.hs m) y=a:=by simpa[j6]using c
   subst this;exact bn (t:=.hs m) rfl
  |mp m=>
   have:enc T (.mp m) y=a:=by simpa[j6]using c
   subst this;exact bn (t:=.mp m) rfl
  |bk t=>
   have:enc T (.bk t) y=a:=by simpa[j6]using c
   subst this;show bA P E T bx g tick (bif fD (.bk t)then .val (.bk t) y else .none) _;cases i:fD (.bk t)with
   |true=>exact bn i|false=>exact .none _
  |ref t=>
   have:enc T (.ref t) y=a:=by simpa[j6]using c
   subst this;show bA P E T bx g tick (bif fD (.ref t)then .val (.ref t) y else .none) _;cases i:fD (.ref t)with
   |true=>exact bn i|false=>exact .none _
 |[],c=>
  refine⟨.gw [],λq dst=>by rw[c];cases dst<;>rfl,λbx g tick=>?_⟩;cases b with
  |unit=>exact .none _|_=>simp[j6]at c
 |a::a'::l,c=>
  refine⟨.gw ((a::a'::l).map .val),λq dst=>?_,λbx g tick=>?_⟩
  .rw[c];cases dst with
   |none=>rfl|some d=>show((q.cS d 0 ((a::a'::l).map .v)).2).put (O d) (.gw (q.cS d 0 ((a::a'::l).map .v)).1)=_;rw[s]
  .cases b with
   |iz t u=>
    show bA P E T bx g tick (bif fD t&&fD u then .gw [.val t y.1,.val u y.2]else .none) _;cases i:(fD t&&fD u)with
    |false=>exact .none _|true=>
     simp only[aP]at i;have v:=(HE (T:=T) i.2).2 y.2;simp only[j6,v,gb,ET,RV.v.injEq]at c;obtain⟨rfl,rfl,o⟩:=c;have o:l=[]:=by simp_all
     subst o;have p:eC P E T bx g tick [.val t y.1,.val u y.2] [.val (enc T t y.1),.val (enc T u y.2)]:=.cons (bn i.1) (.cons (bn i.2) .nil);exact .gw _ _ p.1 p.2
   |unit=>cases c
   |_=>simp[j6]at c
def P9{q:cH}{cs:Z AV}(h:bz q=O (.mc f cs)):q=.val (.mc f cs):=by cases q<;>simp[bz]at h;rw[h]
theorem JQ{bx:Z (Nat×Nat×B U.C)}{caps:Z (R U.C)}(h:bA P E T bx g tick (.mc f caps) u):∃a,u=.val (.mc f a)/\kj P E T caps a:=by
 cases h with
 |mc _ _ a b c=>
  refine⟨a,rfl,b,λi r av d e t v hv=>?_⟩
  grind [oA,bz,aN]
include L in
theorem wG(i:bJ P E T X):∀(ts:Z Ty)(fs:Z (R U.C))(l:Z ah)(s:S U.C){K:S U.C->HL U.C ts->V α},((∃k,s.m k=W)->E.cT=F)->B9 X s ts fs l K=O out->(∀x∈l,ca x=W)->
  ∃s' vs,K s' vs=O out/\bw s s'/\∀q a,aU P E T X s q->kj P E T fs a->∃c xs,Zz P E T X w0 I0 n W s s' l q c xs/\gf P E T ts vs (a++xs)
 |ts,[],l,s,K,d,h,e=>by
  have h:pW X W s ts l [] K=O out:=by cases ts<;>exact h
  obtain⟨s',vs,h,hm,m,f⟩:=qd (P:=P) (E:=E) (T:=T) (w0:=w0) (I0:=I0) (n:=n) L i _ _ _ _ d h e;refine⟨s',vs,h,hm,λq a g b=>?_⟩;obtain⟨c,xs,g1,o⟩:=f q a g b;have:a=[]:=by
   have:=b.1
   grind
  grind
 |[],r::fs,l,s,K,d,h,e=>by simp[B9]at h|t::ts,r::fs,l,s,K,d,h,e=>by
  simp only[B9]at h;split at h
  .rename_i v hv;obtain⟨s',vs,h,hm,f⟩:=wG i ts fs l s d h e;refine⟨s',_,h,hm,λq a g b=>?_⟩;cases a with
   |nil=>have:=b.1;simp at this|cons av a=>
    obtain⟨c,xs,j,p⟩:=f q a g b.tail;refine⟨c,xs,j,av,a++xs,rfl,?_,?_⟩
    .rw[gd];exact b.2 0 r av rfl rfl t v hv
    simp_all
  .cases h
include L in
theorem SU(z:bJ P E T X)(B:(∃k,s.m k=W)->E.cT=F)(a0:ba n o=W){x:ah}(n0:o.op=.call {callee:=.value x,args:=args,argTypes:=argTypes}){fs:Z (R U.C)}(r0:s.ev x=.mc f fs)
  {c:bZ U} (s0:c∈X.lB f) (h:Ca X kx s o.dst c fs args.toList K=O out):ew P E T X w0 I0 n W o s kx K out:=by
 have t0:ca x=W:=bS a0 (by simp[n0,Op.operands,Call.operands]);have b0:∀y∈args.toList,ca y=W:=λy J0=>bS a0 (by grind [Op.operands,Call.operands]);have C:=z.lB f c s0;have c0:∀q,aU P E T X s q->∃g,q.ev x=.val (.mc f g)/\kj P E T fs g:=λq d=>by have l:=d.ev x t0;rw[r0]at l;exact JQ l
 obtain⟨ps,rs,ea,Q⟩:=c;have d0:∀(s2:S U.C)(r:jm U ea (HL U.C (rs.map RK.ty))),bw s s2->tM ea r (λp=>kx p s2) (λy=>rZ s2 o.dst rs y K)=O out->
   (∀q,aU P E T X s q->∃b A,jc P E w0 I0 n q b/\aU P E T X s2 A/\∀(D:St->Prop)(Zloc:AV->St->Prop),PG (qa T rs ea r) (λu0=>D (A.take o.dst u0)) (λy=>Zloc y A)->jS P E w0 I0 n o b D Zloc)->ew P E T X w0 I0 n W o s kx K out:=by
  intro s2 r o0 h m;rcases CN (T:=T) h with⟨y,e0,h⟩|⟨x0,t,e,rfl,e0,h⟩
  .obtain ⟨K0,h,y0,A0⟩:=CM (P:=P) (E:=E) (T:=T) C.rs h;refine .one _ h (o0.trans y0) λq d=>?_;obtain⟨b,A,f0,a2,g0⟩:=m q d;obtain⟨B0,b2,L0,N0⟩:=A0 A a2;refine f0.nv (dL.Ru (g0 _ _ ?_));rw[e0];exact⟨B0,λC0=>by cases C0⟩
  .refine .ea _ _ h o0 λq d=>?_;obtain⟨b,A,f0,a2,g0⟩:=m q d;refine⟨C.ea x0 t rfl,f0.Mr (g0 _ _ ?_)⟩;rw[e0];exact⟨a2,rfl⟩
 have h0:∀{q b:St}{g xs:Z AV},q.ev x=.val (.mc f g)->lG q b->da b args.toList=O xs->Go.Proofs.Enters P f->∀a w I be,aJ P E w0 I0 n b a w I be->∃vs:Array ag,(execOp a.eval o).run P w=.ok (.enter f vs) w/\lN w I vs.toList (g++xs):=λe1 j D0 E0 a w I be G0=>PS n0 a0 (P9 (j x _ (by rw[e1];rfl))) D0 E0 G0;cases Q with
 |pure Q=>simp only[Ca]at h;obtain⟨s',vs,h,hm,m⟩:=wG (P:=P) (E:=E) (T:=T) (w0:=w0) (I0:=I0) (n:=n) L z _ _ _ _ B h b0;obtain⟨r,l,h⟩:=bind_some h;refine d0 s' r hm h λq d=>?_;obtain⟨g,e1,G⟩:=c0 q d;obtain⟨b,xs,g1,H⟩:=m q g d G;have p0:=C.tr vs _ r H l;exact⟨b,b,g1.oP,g1.oM,λD Zloc J=>Jm (h0 e1 g1.jO g1.Ek p0.1) p0 J⟩|rd Q=>
  simp only[Ca]at h;obtain⟨i0,h⟩:=az h;obtain⟨j,h⟩:=az h;simp only[aP,jq]at j;have j0:=nV j.2;obtain⟨s',vs,h,hm,m⟩:=wG (P:=P) (E:=E) (T:=T) (w0:=w0) (I0:=I0) (n:=n) L z _ _ _ _ B h b0;obtain⟨r,l,h⟩:=bind_some h;refine d0 s' r hm h λq d=>?_;obtain⟨g,e1,G⟩:=c0 q d;obtain⟨b,xs,g1,H⟩:=m q g d G;have k0:fB T bF s'.h b.a b.u:=λk v _ i=>g1.oM.heap k v (by rw[hm.m];grind) i;obtain⟨l0,m0,f1,N⟩:=C.tr vs _ _ r _ _ H k0 l;exact⟨b,{b with a:=l0,u:=m0},g1.oP,g1.oM.rk (hv:=s'.hv) (bq _) (λk v H0 i=>f1 k v rfl i),λD Zloc J=>wh (B ⟨0,j0 0 j.1⟩) (z.ro i0) (h0 e1 g1.jO g1.Ek N.1) N J⟩
 |st Q=>simp only[Ca]at h;obtain⟨i0,h⟩:=az h;obtain⟨j,h⟩:=az h;simp only[aP,jq]at j;have j0:=nV j.2;obtain⟨s',vs,h,hm,m⟩:=wG (P:=P) (E:=E) (T:=T) (w0:=w0) (I0:=I0) (n:=n) L z _ _ _ _ B h b0;obtain⟨r,l,h⟩:=bind_some h;obtain⟨r,q0⟩:=r;refine d0 (s'.Hj q0) r (hm.trans (uH _)) h λq d=>?_;obtain⟨g,e1,G⟩:=c0 q d;obtain⟨b,xs,g1,H⟩:=m q g d G;have k0:fB T bF s'.h b.a b.u:=λk v _ i=>g1.oM.heap k v (by rw[hm.m];grind) i;obtain⟨l0,m0,f1,N⟩:=C.tr vs _ _ r q0 _ _ H k0 l;exact⟨b,{b with a:=l0,u:=m0},g1.oP,g1.oM.rk (cO _) (λk v H0 i=>f1 k v rfl i),λD Zloc J=>wh (B ⟨0,j0 0 j.1⟩) (z.ro i0) (h0 e1 g1.jO g1.Ek N.1) N J⟩
include L in
theorem HG(z:bJ P E T X)(H:(∃k,s.m k=W)->E.cT=F)(t:ba n o=W){x:ah}(j:o.op=.call {callee:=.value x,args:=args,argTypes:=argTypes})(h:iA X kx esc fz o s K=O out):ew P E T X w0 I0 n fz o s kx K out:=by
 have U:ca x=W:=bS t (by simp[j,Op.operands,Call.operands]);have h0:∀y∈args.toList,ca y=W:=λy Q=>bS t (by grind [Op.operands,Call.operands]);unfold iA at h;simp only[j]at h;split at h
 .rename_i f caps l;split at h
  .rename_i i0 fs B;replace h:=az h;obtain⟨I,h⟩:=h;simp only[aP,NJ]at I;obtain⟨rfl,j0⟩:=I;have a0:=z.Zf f i0 fs B;refine .one _ h (bi _ _) λq m=>?_;have d:=m.ev x U;rw[l]at d;have e1:q.ev x=.val (.fn f []):=by
    generalize q.ev x=u at d;cases d with
    |fn _ _ C e1 R=>grind
   refine dL.Ru (uv j t (f:=f) (caps:=[]) (xs:=[]) (by unfold jt;rw[e1]) (by rw[j0];rfl) a0 ?_);have J:q.take o.dst [.v (.agg (fs.map Sq))]=q.put o.dst (.val (.agg (fs.map Sq))):=by cases o.dst<;>rfl
   show aU _ _ _ _ _ (q.take o.dst _)/\(fz=F->Fr X s o q (q.take o.dst _));rw[J];refine⟨m.put o.dst (.agg i0 _ _ aH (λi r av d e=>?_) λi av e=>?_),λB=>.pc (.refl s q) λ_=>rfl⟩
   .simp only[gu,c8]at d e;obtain⟨g,k0,rfl⟩:=d;obtain⟨g',b0,rfl⟩:=e;rw[k0]at b0;cases b0;cases g with
    |none=>exact .const .nilFunc rfl|some g=>exact .fn g [] [] rfl λi r av d e=>by simp at d
   .simp only[gu,c8]at e;obtain⟨g',b0,rfl⟩:=e;cases g'<;>rfl
  .obtain ⟨c,I,h⟩:=CR h;exact SQ L z H t j l I h
 .rename_i f first l;cases fz with
  |false=>cases h
  |true=>
   simp only[aW]at h;split at h
   .rename_i c t0 I;exact SU L z H t j l (by grind) h
   .cases h
 .rename_i a b φ l;unfold xFn at h;obtain⟨s',v,h,hm,a0,w⟩:=CK (P:=P) (E:=E) (T:=T) (w0:=w0) (I0:=I0) (n:=n) L z _ _ _ H h h0;obtain⟨y,Q,h⟩:=bind_some h;obtain⟨u,J,c0⟩:=SR (P:=P) (E:=E) (T:=T) b y;refine .one _ h (hm.trans (bi _ _)) λq m=>?_;have d:=m.ev x U;rw[l]at d;have e:∃f caps,q.ev x=.val (.fn f caps)/\∀x y,φ x=O y->∀C,Ht T a x C->tq P E f (C++caps) (.ret (j6 T b y)):=by
   generalize q.ev x=u at d;cases d with
   |val _ _ _ av w hv=>obtain ⟨f,caps,rfl,d0⟩:=hv;exact ⟨f,caps,Cs w,d0⟩
  obtain⟨f,caps,e1,R⟩:=e;obtain⟨p,xs,g1,e0⟩:=w q m;refine g1.oP.nv (dL.Ru (uv j t (wF e1 g1.jO) g1.Ek (R v y Q xs e0) ?_));show aU _ _ _ _ _ (p.take o.dst (j6 T b y))/\(fz=F->Fr X s o q (p.take o.dst (j6 T b y)));rw[J];refine⟨g1.oM.put o.dst (c0 _ _ _),λB=>.pc (g1.fr B) λf0=>(g1.still (CO (X:=X) j f0).1).1⟩
 .rename_i a b φ l;obtain⟨l0,h⟩:=az h;unfold abl at h;obtain⟨g0,h⟩:=az h;simp only[aP,jq]at g0;have m0:=nV g0.2;obtain⟨s',v,h,hm,a0,w⟩:=CK (P:=P) (E:=E) (T:=T) (w0:=w0) (I0:=I0) (n:=n) L z _ _ _ H h h0;obtain⟨r,Q,h⟩:=bind_some h;obtain⟨y,N⟩:=r;obtain⟨u,J,c0⟩:=SR (P:=P) (E:=E) (T:=T) b y;refine .one _ h ((hm.trans (uH _)).trans (bi _ _)) λq m=>?_;have d:=m.ev x U;rw[l]at d;have e:∃f caps,q.ev x=.val (.fn f caps)/\∀x h y N,φ x h=O (y,N)->∀C,Ht T a x C->∀A Vloc,fB T bF h A Vloc->∃D G,fB T bF N D G/\ov P E f (C++caps) A Vloc (.ret (j6 T b y)) D G:=by
   generalize q.ev x=u at d;cases d with
   |val _ _ _ av w hv=>obtain ⟨f,caps,rfl,d0⟩:=hv;exact ⟨f,caps,Cs w,d0⟩
  obtain⟨f,caps,e1,R⟩:=e;obtain⟨p,xs,g1,e0⟩:=w q m;have n0:fB T bF s'.h p.a p.u:=λk S _ i=>g1.oM.heap k S (by rw[hm.m];grind) i;obtain⟨D,G,f1,o0⟩:=R v _ y N Q xs e0 _ _ n0;refine g1.oP.nv (dL.Ru (rR j t (H ⟨0,m0 0 g0.1⟩) (z.ro l0) (wF e1 g1.jO) g1.Ek o0 ?_));show aU _ _ _ _ _ (St.take {p with a:=D,u:=G} o.dst (j6 T b y))/\(fz=F->Fr X s o q (St.take {p with a:=D,u:=G} o.dst (j6 T b y)));rw[J];have p0:aU P E T X (s'.Hj N) {p with a:=D,u:=G}:=g1.oM.rk (cO _) λk S q0 i=>f1 k S rfl i;refine⟨p0.put o.dst (c0 _ _ _),λB=>.pc ?_ λf0=>?_⟩
  .obtain ⟨r0,a2,a3,a4,a5,s0⟩:=g1.fr B;exact⟨r0,a2,a3,(λk i S q0=>by grind),a5,s0⟩
  .simp[j,fA,l]at f0
 .cases h
theorem aeq{x:β}(h:a.toList=[x]):a=#[x]:=by grind
theorem ZA{x y:β}(h:a.toList=[x,y]):a=#[x,y]:=by grind
include L in
theorem HH(j:bJ P E T X)(l:(∃k,s.m k=W)->E.cT=F)(g:ba n o=W)(h:iA X kx esc fz o s K=O out):ew P E T X w0 I0 n fz o s kx K out:=by
 have h0:=h;cases d:o.op with
 |move x=>unfold iA at h;simp only[d]at h;exact VX g d h|assign x=>exact P8 g d h|pick c a b=>exact VY j g d h
 |alloc e=>
  cases u:oy esc o.dst with
  |none=>exact SE L j g d u h|some k=>exact PZ L j l d u h
 |box e x=>
  cases u:oy esc o.dst with
  |none=>exact Zv L j g d u h|some k=>exact V3 L j l g d u h
 |build e B=>exact SF L j l g d h|buildSlice e len B=>exact EE L j (λe t q=>(j.ty e t q).few) g d h
 |load e x=>exact VZ L j g d h|store e p x=>exact SK L j l g d h
 |nilCheck x=>exact JJ g d h|binOp bo e x y e'=>exact SB L j g d h
 |unOp G e x=>exact V0 j g d h|convert e e' x=>exact Mu L j g d h
 |makeInterface e x=>exact yb j (λe t q=>(j.ty e t q).abr) g d h|makeFunc f first caps=>
  cases f with
  |func f=>exact JO L g d h|_=>unfold iA at h;simp only[d]at h;cases h
 |makeMap e r=>
  cases r with
  |none=>exact Mv L j l d h|some r=>unfold iA at h;simp_all
 |makeSlice e m v=>exact HC L j g d h|slice e x H hi mx=>grind [SA,Zx]
 |fieldAddr e x f=>exact Hz j g d h|field e x f=>exact Sy L j g d h
 |indexAddr e x y=>exact HA L j g d h|index e x y=>exact Sz L j g d h
 |lookup e x i I=>exact P6 L j g d h|mapUpdate e x y z=>
  unfold iA at h;simp only[d]at h;split at h
  .rename_i v q w;obtain⟨A,h⟩:=az h
   grind [CD]
  .cases h
 |insert e x y z=>
  unfold iA at h;simp only[d]at h;split at h
  .rename_i v q w;obtain⟨A,h⟩:=az h;exact CD L j A l g (.inr d) w q h
  .cases h
 |extract x k=>exact Ms g d h|panic x=>exact SH j g d h
 |call c=>
  obtain⟨C,args,argTypes⟩:=c;cases C with
  |value x=>exact HG L j l g d h|builtin b=>
   unfold iA at h;simp only[d]at h;split at h
   grind [aeq,Zu]
   grind [ZA,P7]
   .rename_i x y D;rw[ZA D]at d;exact Zt g d h0
   grind [ZA,V4]
   .cases h
  |_=>unfold iA at h;simp_all
 |_=>unfold iA at h;simp only[d]at h;cases h
def mG{q:St}{K c:St->Prop}(h:dL P E w0 I0 n o q K)(d:∀q,K q->∃b,jc P E w0 I0 n q b/\c b):dL P E w0 I0 n o q c:=λa w e f=>lL (λa' w' ⟨b,g1,g⟩=>by obtain⟨i,j,k⟩:=d b g;exact⟨i,j a' w' g1,k⟩) (h a w e f)
include L in
theorem ZB(l:bJ P E T X)(m:(∃k,s.m k=W)->E.cT=F){esc:Z (Nat×Nat)}(h:Yl esc dst s K=O out):
  ∃s',K s'=O out/\bw s s'/\∀q,aU P E T X s q->∃c,jc P E w0 I0 n q c/\aU P E T X s' c:=by
 unfold Yl at h;split at h
 .rename_i k d o;cases j:Nat.beq k 998 with
  |true=>rw[j]at h;obtain⟨s',e,f,_,g⟩:=wE (P:=P) (E:=E) (X:=X) (w0:=w0) (I0:=I0) (n:=n) L _ _ _ h;exact⟨s',e,f,λq i=>let⟨c,a,b,_⟩:=g q i;⟨c,a,b⟩⟩|false=>
   rw[j]at h;replace h:S.val W s (s.ev (.tmp d)) (.hs (k-2000)) (λs _=>K s)=O out:=h;obtain⟨s',v,e,f,_,_,g⟩:=lb (P:=P) (E:=E) (X:=X) (w0:=w0) (I0:=I0) (n:=n) L l m (x:=.tmp d) rfl h;exact⟨s',e,f,λq i=>let⟨c,av,a⟩:=g q i;⟨c,a.oP,a.oM⟩⟩
 .cases h
include L in
theorem ew.Yl (t:bJ P E T X) (u:(∃k,s.m k=W)->E.cT=F) {esc:Z (Nat×Nat)} (h:ew P E T X w0 I0 n W o s kx (λs=>Yl esc dst s K) out):ew P E T X w0 I0 n W o s kx K out:=by
 have j:∀d:S U.C,Go.X.Yl esc dst d K=O out->bw s d->∃s',K s'=O out/\bw s s'/\∀q,aU P E T X d q->∃r,jc P E w0 I0 n q r/\aU P E T X s' r:=λd f e=>
  let⟨s',a,b,c⟩:=ZB (P:=P) (E:=E) (X:=X) (w0:=w0) (I0:=I0) (n:=n) L t (by rw[e.m];exact u) f
  ⟨s',a,e.trans b,c⟩
 cases h with
 |one d f e h=>obtain⟨s2,v,w,x⟩:=j d f e;refine .one s2 v w λq l=>mG (h q l) λq1 g=>?_;obtain⟨i,a,b⟩:=x q1 g.1;exact⟨i,a,b,λm=>by cases m⟩
 |h8 m d s2 y z A B h=>
  obtain⟨C,D,G,H⟩:=j d y A;obtain⟨I,J,N,Q⟩:=j s2 z B;refine .h8 m C I D J G N λq l=>mG (h q l) λq1 g=>?_;rcases g with g|g
  .obtain ⟨i,a,b⟩:=H q1 g;exact⟨i,a,.inl b⟩
  .obtain ⟨i,a,b⟩:=Q q1 g;exact⟨i,a,.inr b⟩
 |ea p d f e h=>exact .ea p d f e h
theorem SV(f:Nat->β)(k:Nat):b8 f k (f k)=f:=by grind [b8]
def aU.Qa {t:Nat} (h:aU P E T X s q) {r:R U.C} (a:bA P E T s.b q.g s.tick r (q.r t)):aU P E T X (s.put (O t) r) q:=by have:=h.put (O t) a;simp only[St.rF,SV]at this;exact this
def V5{bx:Z (Nat×Nat×B U.C)}{gg:Nat}{vs:Z AV}{r:R U.C}(h:bA P E T bx g tick r u)(q:r.bb d=F):bA P E T bx g tick r (nr d gg vs u):=by
 have s:∀{d':Nat},Nat.beq d' d=F->d'≠d:=λh e=>by subst e;simp at h
 cases h with
 |none=>exact .none _|val t y _ av w hv=>
  have:nr d gg vs u=u:=by cases u<;>first|rfl|(simp[bz]at w)
  rw[this];exact .val t y _ av w hv
 |const v z=>
  have:nr d gg vs (cB v)=cB v:=by unfold cB;split<;>rfl
  rw[this];exact .const v z
 |dT d' k _ b=>exact .dT d' k _ λst u' G c=>by rw[b _ _ _ c];simp[nr,s q]|whole d' _ b=>exact .whole d' _ λst t e xs c=>by rw[b _ _ _ _ c];rfl
 |gq d' i k A t y _ hv b=>refine .gq d' i k A t y _ hv λst H e xs c=>?_;obtain⟨q1,o,C⟩:=b _ _ _ _ c;exact⟨by rw[q1];simp[nr,s q],o,C⟩|sub d' off m _ b=>refine .sub d' off m _ λst t e xs c=>?_;obtain⟨q1,o⟩:=b _ _ _ _ c;exact⟨by rw[q1];rfl,o⟩
 |bF t xs h=>exact .bF t xs h|dF t x k h=>exact .dF t x k h
 |gw rs qs h a=>exact .gw rs qs h a|fn f caps l h a=>exact .fn f caps l h a
 |mR D t x h=>exact .mR D t x h|jy k i off=>exact .jy k i off
 |kq k i j off=>exact .kq k i j off|sN rs l h a p=>exact .sN rs l h a p
 |nF r av h=>exact .nF r av h|hk t h=>exact .hk t h
 |agg n rs l h a p=>exact .agg n rs l h a p|it k=>exact .it k
 |mc f rs l h a=>exact .mc f rs l h a
theorem SW(A:ba n o=W){r:R U.C}{esc:Z (Nat×Nat)}(g:Sg esc o s=O (d,r))(h:K (s.Vz d r)=O out):ew P E T X w0 I0 n W o s kx K out:=by
 unfold Sg at g;split at g
 .rename_i e x d' k B L m;obtain⟨C,g⟩:=az g;simp only[aP]at C;split at g
  .rename_i a b φ N;simp only[aN,cz]at g;obtain⟨rfl,rfl⟩:=g;have Q:x∈o.op.operands:=by simp[B,Op.operands]
   refine .one _ h ?_ λq i=>?_
   .refine bw.trans (s':={s with r:=(d',s.tick,.none)::jY d' s.tick s.r,b:=bu s.b d',tick:=s.tick+1}) ⟨rfl,cO _,λt st y h n0=>?_,λ_ _ _ h _=>fF h,λ_=>⟨rfl,rfl⟩⟩ (bi _ _);simp only[aT,im]at h;split at h
    .grind
    .simp only[c8]at h
     grind
   have v:=i.fL A Q;rw[N]at v;generalize z:q.ev x=u at v;cases v with
   |val _ _ _ av D hv=>
    obtain⟨f,caps,rfl,a0⟩:=hv;have b0:u=.val (.fn f caps):=by cases u<;>simp[bz]at D;rw[D]
    subst b0;refine mG (xC (K:=λq1=>q1=q.ep d' [q.ev x]) B A L (cs:=[q.ev x]) (by rw[z];rfl) (by rw[z];trivial) rfl) λq1 c0=>?_;subst c0;refine⟨(q.ep d' [q.ev x]).gv d' [.fn f caps],λa w d0=>tL d' (cs:=[q.ev x]) (by simp[St.ep]) (by rw[z];rfl) d0,?_,λe0=>by cases e0⟩;have m:∀c,c≠d'->kG s.b (bu s.b d') q.g (b8 q.g d' (q.g d'+1)) s.tick c:=λc e=>by left;rw[aR,ao (eN e)];exact ⟨rfl,aO _ _ e⟩
    have f0:aU P E T X {s with r:=(d',s.tick,.none)::jY d' s.tick s.r,b:=bu s.b d',tick:=s.tick+1} ((q.ep d' [q.ev x]).gv d' [.fn f caps]):=by
     refine⟨λt=>?_,λc=>?_,λt st y l=>?_,λc st y l=>?_,i.heap,i.df⟩
     .by_cases e:d'=t
      .subst e;simp only[S.bG,aT,cm];exact .none _
      .simp only[S.bG,aT,ao e,im];have j:=i.ct t;unfold S.bG at j;cases g0:aF s.r t with
       |none=>simp only[jr];exact .none _|some p=>
        obtain⟨st,y⟩:=p;simp only[g0,dr]at j⊢;cases G:y.bb d' with
        |true=>simp only[cm];exact .none _|false=>simp only[jo,cA];have H:=V5 (gg:=q.g d'+1) (vs:=[.fn f caps]) (j.mono (λc I=>m c λh0=>by subst h0;rw[G]at I;cases I) (cO _)) G;have e':¬t=d':=λh=>e h.symm;simpa[St.gv,St.ep,b8,e']using H
     .by_cases e:d'=c
      .subst e;simp[aR,oz]
      .simp only[aR,ao e];have j:=(i.bD c).mono (bx':=bu s.b d') (g':=b8 q.g d' (q.g d'+1)) (tick':=s.tick+1) (λ_ _ _ i0 J=>m i0 λj0=>?_) (cO _)
       .simpa[St.gv,St.ep,aO _ _ (eN e)]using j
       .subst j0;rw[qJ C.2 ‹_›]at J;cases J
     .simp only[aT,im]at l;split at l
      .grind
      .simp only[c8]at l;obtain⟨⟨k0,l0⟩,j,H⟩:=l;have:=i.zo t k0 l0 j
       grind
     .have:=i.Ez c st y (fF l);exact xx this
    refine f0.Qa (t:=d') ?_;have m0:((q.ep d' [q.ev x]).gv d' [.fn f caps]).r d'=.val (.ref [.fn f caps]):=by simp[St.gv,St.ep,nr]
    rw[m0];exact .nF _ _ (.val _ _ _ _ rfl ⟨f,caps,rfl,a0⟩)
  .cases g
 .cases g
include L in
theorem OC(a:bJ P E T X)(b:(∃k,s.m k=W)->E.cT=F)(c:ba n o=W)(h:Ju X kx esc o s K=O out):ew P E T X w0 I0 n W o s kx K out:=by
 unfold Ju at h;split at h
 .rename_i d r f;exact SW c f h
 cases e:Sf esc o.dst with
 |true=>rw[e]at h;replace h:iA X kx [] W o s (λs=>Yl esc o.dst s K)=O out:=h;exact ew.Yl L a b (HH (w0:=w0) (I0:=I0) L a b c h)|false=>
  rw[e]at h;replace h:iA X kx esc W o s K=O out:=h
  grind [HH]
def QE(P:ai)(E:cd)(T:dt U.C)(X:gy U)(sB:S U.C)(k:S U.C->V α)(out:α)(q:St):Prop:=∃s',aU P E T X s' q/\bw sB s'/\k s'=O out
def XE(P:ai)(E:cd)(T:dt U.C)(X:gy U)(sB:S U.C)(kx:o8 U->S U.C->V α)(out:α)(av:AV)(q:St):Prop:=∃p s',aU P E T X s' q/\bw sB s'/\kx p s'=O out/\fD p.t=W/\av=.mR p.VI (enc T p.t p.x)
include L in
theorem sV(m:bJ P E T X){sB:S U.C}(y:(∃k,sB.m k=W)->E.cT=F){ops:Array aC}(z:ju n ops=W){Q:e7->St->Prop}(A:∀q,QE P E T X sB K out q->Q .normal q){Zloc:AV->St->Prop}(B:∀av q,XE P E T X sB kx out av q->Zloc av q):
  ∀(l:Z aC)(i:Nat)(s:S U.C)(q:St)(a:Act)(w:af),(∀j,l[j]?=ops[i+j]?)->bw sB s->mE X kx esc ops l s K=O out->aU P E T X s q->ko P E w0 I0 n q a w->
  wpOps P ops (xL P E w0 I0 n Q Zloc) (List.range' i l.length) a w
 |[],i,s,q,a,w,_,hm,h,c,d=>⟨q,d,A q ⟨s,c,hm,h⟩⟩|o::l,i,s,q,a,w,e0,hm,h,c,d=>by
  have f0:ops[i]?=O o:=by simpa using(e0 0).symm
  have D:∀j,l[j]?=ops[(i+1)+j]?:=λj=>by have:=e0 (j+1);grind
  have g0:=rB.1 z o (kQ f0);simp only[aP]at g0;simp only[ie,List.range'_succ,wpOps,f0];have h0:∀s:S U.C,bw sB s->aU P E T X s q->Ju X kx esc o s (λs=>mE X kx esc ops l s K)=O out->o.wp P a w (wpOps P ops (xL P E w0 I0 n Q Zloc) (List.range' (i+1) l.length)) (xL P E w0 I0 n Q Zloc):=λs hm c h=>by
   cases OC (w0:=w0) (I0:=I0) L m (by rw[hm.m];exact y) g0.1 h with
   |one s1 d0 G H=>exact lL (λa' w' ⟨J,g1,g2⟩=>sV m y z A B l (i+1) s1 J a' w' D (hm.trans G) d0 g2.1 g1) (H q c a w d _)|h8 t0 s1 s2 k0 l0 G m0 H=>
    refine lL (λa' w' ⟨J,g1,g2⟩=>?_) (H q c a w d _);rcases g2 with g2|g2
    .exact sV m y z A B l (i+1) s1 J a' w' D (hm.trans G) k0 g2 g1
    .exact sV m y z A B l (i+1) s2 J a' w' D (hm.trans m0) l0 g2 g1
   |ea p s1 d0 G H=>obtain⟨n0,o0⟩:=H q c;refine lL (λa' w' ⟨J,g1,g2⟩=>g2.elim) (o0 a w d _ λx v s' a' w' I' p0 i0 N R=>?_);exact⟨x,v,s',I',p0,rfl,B _ _ ⟨p,s1,i0.1,hm.trans G,d0,n0,i0.2⟩,N,R⟩
  have u0:∀s:S U.C,bw sB s->aU P E T X s q->mE X kx esc ops l s K=O out->wpOps P ops (xL P E w0 I0 n Q Zloc) (List.range' (i+1) l.length) a w:=λs hm c h=>sV m y z A B l (i+1) s q a w D hm h c d;have skip:∀s:S U.C,bw sB s->aU P E T X s q->mE X kx esc ops l (s.put o.dst pX) K=O out->wpOps P ops (xL P E w0 I0 n Q Zloc) (List.range' (i+1) l.length) (a.put o.dst undef) w:=λs hm c h=>by refine sV m y z A B l (i+1) _ (q.put o.dst (.gw [])) _ w D (hm.trans (bi _ _)) h (c.put o.dst (.gw [] [] rfl λi r q R=>by simp at R)) ?_;obtain⟨I,be,N⟩:=d;exact⟨I,be,N.put o.dst (r:=.gw []) ⟨#[],rfl,rfl,λj r R=>by simp at R⟩⟩
  unfold mE at h;cases b0:o.guard with
  |none=>
   simp only[b0]at h;simp only[Region.wanted,b0,cm]
   grind
  |some p=>
   obtain⟨j,a0⟩:=p;simp only[b0]at h;split at h
   .cases h
   .rename_i t q0;have r0:t<n:=by grind
    have s0:=d;obtain⟨I,be,N⟩:=s0;have f:=c.ct t;have j0:∀b,uw q t a0=O b->(yielded ops a.tmps j==O a0)=b:=λb g=>ux N r0 q0 g;simp only[Region.wanted,b0];split at h
    .rename_i b g;have C:q.r t=.val (.fl (.bool b)):=by
      rw[g]at f;cases f with
      |val _ _ _ av C hv=>obtain ⟨_,rfl⟩:=hv;exact dk C
     rw[j0 (b==a0) (by simp[uw,C])];have c0:∀b',b'=b->aU P E T X (s.put (O t) (.val .bool b')) q:=λb' e=>c.Qa (by grind);cases b<;>cases a0<;>simp only[aW,aX]at h<;>simp
     .exact .inl (h0 (s.put (O t) _) (hm.trans (bi _ _)) (c0 _ rfl) h)
     .exact skip (s.put (O t) _) (hm.trans (bi _ _)) (c0 _ rfl) h
     .exact skip (s.put (O t) _) (hm.trans (bi _ _)) (c0 _ rfl) h
     .exact .inl (h0 (s.put (O t) _) (hm.trans (bi _ _)) (c0 _ rfl) h)
    .rename_i b g;have C:q.r t=.val (.fl (.bool b)):=by
      rw[g]at f;generalize q.r t=u at f;cases f with
      |const _ x0=>rfl
     rw[j0 (b==a0) (by simp[uw,C])]
     grind
    .rename_i g;have C:∃qs,q.r t=.gw qs:=by
      rw[g]at f;generalize q.r t=u at f;cases f with
      |gw _ qs _ _=>grind
     grind [uw]
    .cases h
end
section
variable{C:Nat->Type}
inductive Item(s:S C):RS->R C->R C->List (Nat×B C)->Prop
 |val (t:Ty) (x:R C) (v:bL C t) (h:ga t x=O v):Item s (.val t) x (.val t v) []
 |bF (t:Ty) (xs:List (bL C t)):Item s (.bF t) (.bF t xs) (.bF t xs) []
 |dT (d k:Nat):Item s (.dT d k) (.dT d k) (.dT d k) []
 |whole (d:Nat):Item s (.whole d) (.whole d) (.whole d) []
 |bR (d:Nat) (t:Ty) (e:TypeId) (d':Nat) (xs:List (bL C t)) (h:s.box d'=O (.br t e xs)):Item s (.bR d t e) (.whole d') (.whole d) [(d,.br t e xs)]
 |ZD (d:Nat) (t:Ty) (e:TypeId):Item s (.bR d t e) (.bF t []) (.whole d) [(d,.br t e [])]
 |ZE (d:Nat) (t:Ty) (e:TypeId):Item s (.bR d t e) (.hk t) (.whole d) [(d,.br t e [])]
 |ZF (d:Nat) (t:Ty) (e:TypeId) (v:Value) (h:fE v=W):Item s (.bR d t e) (.const v) (.whole d) [(d,.br t e [])]
 |dF (t:Ty) (z:bL C t) (k:Nat):Item s (.dF t k) (.dF t z k) (.dF t z k) []
def iq(tick:Nat)(bs:Z (Nat×B C)):Z (Nat×Nat×B C):=bs.map λe=>(e.1,tick,e.2)
def OD{s:S C}{r:RS}{x:R C}{ts:Z Ty}{y:HL C ts}{z:HL C (Jw r.ty ts)}(tick:Nat)(h:r.pZ s x ts y=O z):∃c bs,Item s r x c bs/\r.load tick ts z=((c,iq tick bs),y):=by
 cases r with
 |val t=>
  simp only[RS.pZ]at h;split at h
  .rename_i v hv;obtain rfl:=cJ h;exact⟨_,_,.val t x v hv,by simp[RS.load,iq]⟩
  .cases h
 |bF t=>
  simp only[RS.pZ]at h;split at h
  .rename_i b xs;split at h
   .rename_i v hv;obtain⟨e,rfl⟩:=bM hv;simp only[Ty.bk.injEq]at e;subst e;obtain rfl:=cJ h;exact⟨_,_,.bF b xs,by simp[RS.load,iq]⟩
   .cases h
  .cases h
 |dT d k=>
  simp only[RS.pZ]at h;split at h
  .rename_i d' k';replace h:=az h;obtain⟨f,h⟩:=h;simp only[aP]at f;obtain⟨a,i⟩:=f;obtain rfl:=cC a;obtain rfl:=cC i;obtain rfl:=cJ h;exact⟨_,_,.dT d k,rfl⟩
  .cases h
 |whole d=>
  simp only[RS.pZ]at h;split at h
  .rename_i d';replace h:=az h;obtain⟨a,h⟩:=h;obtain rfl:=cC a;obtain rfl:=cJ h;exact⟨_,_,.whole d,rfl⟩
  .cases h
 |bR d t e=>
  simp only[RS.pZ]at h;split at h
  .rename_i d';split at h
   .rename_i b e' xs j;replace h:=az h;obtain⟨a,h⟩:=h;obtain rfl:=e4 a;split at h
    .rename_i v hv;obtain⟨g,rfl⟩:=bM hv;simp only[Ty.bk.injEq]at g;subst g;obtain rfl:=cJ h;exact⟨_,_,.bR d b e' d' xs j,by simp[RS.load,iq]⟩
    .cases h
   .cases h
  .rename_i b xs;replace h:=az h;obtain⟨a,h⟩:=h;obtain rfl:=e4 a;split at h
   .obtain rfl:=cJ h;exact⟨_,_,.ZD d b e,by simp[RS.load,iq]⟩
   .cases h
  .rename_i v;replace h:=az h;obtain⟨a,h⟩:=h;obtain rfl:=cJ h;exact⟨_,_,.ZF d t e v a,by simp[RS.load,iq]⟩
  .rename_i b;replace h:=az h;obtain⟨a,h⟩:=h;obtain rfl:=e4 a;obtain rfl:=cJ h;exact⟨_,_,.ZE d b e,by simp[RS.load,iq]⟩
  .cases h
 |dF t k=>
  simp only[RS.pZ]at h;split at h
  .rename_i b l k';replace h:=az h;obtain⟨a,h⟩:=h;obtain rfl:=cC a;split at h
   .rename_i v hv;obtain⟨e,rfl⟩:=bM hv;subst e;obtain rfl:=cJ h;exact⟨_,_,.dF b l k,by simp[RS.load,iq]⟩
   .cases h
  .cases h
inductive CS(s:S C):List (Nat×RS)->List (Nat×R C)->List (Nat×B C)->Prop
 |nil:CS s [] [] []
 |cons {q:Nat} {r:RS} {l:List (Nat×RS)} {R':R C} {rs:List (Nat×R C)} {b1 b2:List (Nat×B C)} (h:Item s r (s.bG q) R' b1) (h2:CS s l rs b2):CS s ((q,r)::l) ((q,R')::rs) (b1++b2)
inductive qM(s:S C):List RS->List (R C)->List (R C)->List (Nat×B C)->Prop
 |nil:qM s [] [] [] []
 |cons {r:RS} {l:List RS} {x R':R C} {xs rs:List (R C)} {b1 b2:List (Nat×B C)} (h:Item s r x R' b1) (h2:qM s l xs rs b2):qM s (r::l) (x::xs) (R'::rs) (b1++b2)
inductive uN(s:S C):List (Nat×BS)->List (Nat×B C)->Prop
 |nil:uN s [] []
 |cells {d:Nat} {t:Ty} {cs:List RS} {l:List (Nat×BS)} {xs rs:List (R C)} {b1 b2:List (Nat×B C)} (hb:s.box d=O (.cells t xs)) (h:qM s cs xs rs b1) (h2:uN s l b2):uN s ((d,.cells t cs)::l) ((d,.cells t rs)::(b1++b2))
 |br {d:Nat} {t:Ty} {e:TypeId} {l:List (Nat×BS)} {xs:List (bL C t)} {b2:List (Nat×B C)} (hb:s.box d=O (.br t e xs)) (h2:uN s l b2):uN s ((d,.br t e)::l) ((d,.br t e xs)::b2)
theorem wH(tick:Nat)(a b:Z (Nat×B C)):iq tick (a++b)=iq tick a++iq tick b:=by simp[iq]
theorem FE{s:S C}(tick:Nat):∀(l:Z (Nat×RS))(ts:Z Ty)(y:HL C ts)(z:HL C (uE l ts)),wq s l ts y=O z->∃rs bs,CS s l rs bs/\p7 tick l ts z=((rs.map λe=>(e.1,tick,e.2),iq tick bs),y)
 |[],ts,y,z,h=>by have h:O y=O z:=h;obtain rfl:=cJ h;exact⟨[],[],.nil,rfl⟩|(q,r)::l,ts,y,z,h=>by
  simp only[wq]at h;split at h
  .rename_i a b;obtain⟨rs,b2,c,f⟩:=FE tick l ts y a b;obtain⟨g,i,d,j⟩:=OD tick h;refine⟨_,_,.cons d c,?_⟩
   grind [p7,wH]
  .cases h
theorem FF{s:S C}(tick:Nat):∀(l:Z RS)(ts:Z Ty)(xs:Z (R C))(y:HL C ts)(z:HL C (qH l ts)),nQ s l ts xs y=O z->∃rs bs,qM s l xs rs bs/\loadCells tick l ts z=((rs,iq tick bs),y)
 |[],ts,[],y,z,h=>by have h:O y=O z:=h;obtain rfl:=cJ h;exact⟨[],[],.nil,rfl⟩|[],ts,_::_,y,z,h=>by simp[nQ]at h|r::l,ts,[],y,z,h=>by simp[nQ]at h
 |r::l,ts,x::xs,y,z,h=>by
  simp only[nQ]at h;split at h
  .rename_i a b;obtain⟨rs,b2,c,e⟩:=FF tick l ts xs y a b;obtain⟨f,g,d,i⟩:=OD tick h;refine⟨_,_,.cons d c,?_⟩
   grind [loadCells,wH]
  .cases h
theorem yi{s:S C}(tick:Nat):∀(l:Z (Nat×BS))(z:HL C (k8 l)),nR s l=O z->∃bs,uN s l bs/\nS tick l z=iq tick bs
 |[],z,h=>⟨[],.nil,rfl⟩|(d,.cells t cs)::l,z,h=>by
  simp only[nR]at h;split at h
  .rename_i i xs x a b;replace h:=az h;obtain⟨c,h⟩:=h;obtain rfl:=e4 c;obtain⟨j,f,k⟩:=yi tick l x b;obtain⟨rs,n,m,o⟩:=FF tick cs _ _ _ _ h;refine⟨_,.cells a m f,?_⟩
   grind [nS,iq]
  .cases h
 |(d,.br t e)::l,z,h=>by
  simp only[nR]at h;split at h
  .rename_i i e' xs x a b;replace h:=az h;obtain⟨c,h⟩:=h;obtain rfl:=e4 c;split at h
   .rename_i v hv;obtain⟨g,rfl⟩:=bM hv;simp only[Ty.bk.injEq]at g;subst g;obtain rfl:=cJ h;obtain⟨j,f,k⟩:=yi tick l x b;refine⟨_,.br a f,?_⟩
    grind [nS,gd,ht,iq]
   .cases h
  .cases h
end
end Go.X
namespace Go.Ev
open Go
inductive fI(s s2:St)(φ:Nat->Option Nat):cH->cH->Prop
 |none (u:cH):fI s s2 φ u .none
 |val (a:AV):fI s s2 φ (.val a) (.val a)
 |bF (xs:List AV):fI s s2 φ (.bF xs) (.bF xs)
 |dT (d d' k:Nat) (h:φ d=O d') (hb:s.b d'≠Option.none):fI s s2 φ (.dT d' (s.g d') 0 0 k) (.dT d 1 0 0 k)
 |view (d d' len e:Nat) (xs:List AV) (h:φ d=O d') (hb:s.b d'=O (.br e xs)) (hb2:s2.b d=O (.br e xs)):fI s s2 φ (.view d' (s.g d') 0 len) (.view d 1 0 len)
 |nil (d e:Nat) (h:φ d=Option.none) (hb2:s2.b d=O (.br e [])):fI s s2 φ (.bF []) (.view d 1 0 0)
 |hk (d e:Nat) (h:φ d=Option.none) (hb2:s2.b d=O (.br e [])):fI s s2 φ (.val .hk) (.view d 1 0 0)
inductive HI(s s2:St)(φ:Nat->Option Nat):Bx->Bx->Prop
 |br (e:Nat) (xs:List AV):HI s s2 φ (.br e xs) (.br e xs)
 |cells (cs cs2:List cH) (hl:cs.length=cs2.length) (h:∀(i:Nat)(c c2:cH),cs[i]?=O c->cs2[i]?=O c2->fI s s2 φ c c2):HI s s2 φ (.cells cs) (.cells cs2)
section
variable{P:ai}{E:cd}{w0:af}{I0:aA}{n:Nat}{s s2:St}{a:Act}{w:af}{I:aA}{be:Nat->V Nat}{φ:Nat->V Nat}
theorem JR(l:∀d,s2.g d=1){v:ag}{r c:cH}(i:fI s s2 φ r c)(h:bU P w I be s.b s.g v r):bU P w I (λd=>(φ d).bind be) s2.b s2.g v c:=by
 cases i with
 |none u=>trivial|val a=>exact h
 |bF xs=>exact h|dT d d' k b f=>
  refine⟨by grind,λ_ _=>?_⟩;obtain⟨B,j,m⟩:=h.2 rfl f
  grind
 |view d d' len e xs b f g=>
  refine⟨by grind,λ_=>?_⟩;have j:=h.2 rfl
  grind [eI]
 |nil d e b g=>
  refine⟨by grind,λ_=>?_⟩;obtain⟨_,A,hv⟩:=h;unfold eI
  grind
 |hk d e b g=>
  refine⟨by grind,λ_=>?_⟩;cases(show cy w I v .hk from h)with
  |hk A=>
   unfold eI
   grind
theorem SX(G:s2.a=s.a)(H:s2.u=s.u)(J:s2.df=s.df)(y:∀d,s2.g d=1)(f0:∀b c d',φ b=O d'->φ c=O d'->s2.b b≠Y->s2.b c≠Y->b=c)(K:∀t,fI s s2 φ (s.r t) (s2.r t))
  (L:∀d x,s2.b d=O x->(φ d=Y/\∃e,x=.br e []/\0<P.cellsOf e)∨∃d' f,φ d=O d'/\s.b d'=O f/\HI s s2 φ f x) (h:ko P E w0 I0 n s a w):ko P E w0 I0 n s2 a w:=by
 obtain⟨I,be,h⟩:=h;have p:∀d B,s2.b d≠Y->(φ d).bind be=O B->∃d',φ d=O d'/\s.b d'≠Y/\be d'=O B:=λd B z g=>by
  cases A:s2.b d with
  |none=>grind|some x=>grind
 refine⟨I,λd=>(φ d).bind be,h.since,h.size,by rw[J];exact h.defers,λt N=>JR y (K t) (h.ct t N),λd x A=>?_,λb c B k l q Q=>?_,λd B z g=>?_,(λd bo _ l _=>by grind),?_⟩
 .rcases L d x A with⟨k,e,rfl,R⟩|⟨d',f,k,l,q⟩
  .refine ⟨R,eM _,λi x hi=>by simp at hi,?_⟩;simp[k]
  .have C:=h.bD d' f l;cases q with
   |br e xs=>
    obtain⟨q1,m,o,r⟩:=C;refine⟨q1,m,o,?_⟩
    grind
   |cells cs g0 S T=>
    obtain⟨B,cur,t,q1,m,o,r⟩:=C;refine⟨B,cur,t,by grind,m,by rw[o,S],λj U X=>?_⟩;have D:j<cs.length:=by grind
    exact JR y (T j cs[j] U (by simp[D]) X) (r j cs[j] (by simp[D]))
 .obtain ⟨a0,b0,u,v⟩:=p b B k q;obtain⟨c0,h0,d0,e0⟩:=p c B l Q;have:=h.inj a0 c0 B u d0 v e0
  grind
 .obtain ⟨d',b0,u,v⟩:=p d B z g;exact h.bR d' B u v
 .rw[G,H];refine⟨h.aZ.h7,h.aZ.inj,λi B hi g=>?_,h.aZ.un,h.aZ.ro⟩;obtain⟨q1,m,o,r,i0⟩:=h.aZ.bR i B hi g
  grind
end
end Go.Ev
namespace Go.X
open Go Go.Ev
variable{Yloc:Ty->an->Prop}{ow:Z Nat}{u:cH}{C:Nat->Type}{tick d:Nat}{f:bH}{c:bT}{Mloc:Z (Nat×V Nat)}{l:Z RS}{Zloc:AV->St->Prop}{t:Ty}{fn:Func}{ps:Z Ty}{ea:V (an×Ty)}{r:RS}{Q:e7->St->Prop}{av:AV}{ob:V Nat}{e:an}{g:Nat->Nat}{esc:Z (Nat×Nat)}{hint:e9}{xs rs:Z (R C)}
section
variable{C:Nat->Type}
theorem ck{d:Nat}:∀{l:Z Nat},ik d l=W↔d∈l
 |[]=>by simp[ik]|e::l=>by simp only[ik,lC,fb,ck (l:=l)];simp_all
theorem uO:∀{l:Z Nat},Ck l=W->l.Nodup
 |[],_=>.nil|d::l,h=>by simp only[Ck,aP,iB]at h;refine oc.2 ⟨λa=>?_,uO h.2⟩;rw[ck.2 a]at h;cases h.1
def HJ:R C->V Nat
 |.whole d=>O d|_=>Y
def RS.mv (x:R C):RS->Z (Nat×V Nat)
 |.bR d _ _=>[(d,HJ x)]|_=>[]
def Rj(s:S C):Z (Nat×RS)->Z (Nat×V Nat)
 |[]=>[]|(q,r)::l=>r.mv (s.bG q)++Rj s l
def MB:Z RS->Z (R C)->Z (Nat×V Nat)
 |r::l,c::rs=>r.mv c++MB l rs|_,_=>[]
def JS(s:S C):Z (Nat×BS)->Z (Nat×V Nat)
 |[]=>[]|(d,.cells _ cs)::l=>(d,O d)::((match s.box d with
  |some (.cells _ rs)=>MB cs rs|_=>[])++JS s l)
 |(d,.br _ _)::l=>(d,O d)::JS s l
def SY(x:R C)(r:RS):(r.mv x).filterMap (·.2)=r.src x:=by cases r<;>cases x<;>rfl
theorem OE(s:S C):∀l,(Rj s l).filterMap (·.2)=On s l
 |[]=>rfl|(q,r)::l=>by simp only[Rj,On,Rt,SY,OE s l]
theorem OF:∀(l:Z RS)(rs:Z (R C)),(MB l rs).filterMap (·.2)=Fk l rs
 |[],_=>by simp[MB,Fk]|_::_,[]=>by simp[MB,Fk]
 |r::l,c::rs=>by simp only[MB,Fk,Rt,SY,OF l rs]
theorem HK(s:S C):∀l,(JS s l).filterMap (·.2)=Fl s l
 |[]=>rfl|(d,.cells t cs)::l=>by
  simp only[JS,Fl,NE,Rt,HK s l]
  grind [OF]
 |(d,.br t e)::l=>by simp only[JS,Fl,NE,HK s l]
theorem yj{c e d':Nat}:∀{Mloc:Z (Nat×V Nat)},(Mloc.filterMap (·.2)).Nodup->(c,O d')∈Mloc->(e,O d')∈Mloc->c=e
 |[],_,a,_=>by cases a
 |(d,o)::Mloc,f,a,b=>by
  have h:∀x,(x,O d')∈Mloc->d'∈Mloc.filterMap (·.2):=λx g=>List.mem_filterMap.2 ⟨_,g,rfl⟩;cases o with
  |none=>simp only[fb,cz,reduceCtorEq,and_false,false_or]at a b;exact yj (Mloc:=Mloc) (by grind) a b|some i=>
   simp only[NE,oc]at f;simp only[fb,cz,aN]at a b;rcases a with⟨rfl,rfl⟩|a
   grind
   .rcases b with⟨rfl,rfl⟩|b
    grind
    .exact yj f.2 a b
inductive MC(s:S C)(Yloc:Ty->TypeId->Prop)(ow:List Nat)(Mloc:List (Nat×Option Nat))(Zloc:List (Nat×B C)):Nat->B C->Prop
 |bR (d d':Nat) (t:Ty) (e:TypeId) (xs:List (bL C t)) (hm:(d,O d')∈Mloc) (h:s.box d'=O (.br t e xs)) (ho:d∈ow):MC s Yloc ow Mloc Zloc d (.br t e xs)
 |nil (d:Nat) (t:Ty) (e:TypeId) (hm:(d,Y)∈Mloc) (ho:d∈ow) (hy:Yloc t e):MC s Yloc ow Mloc Zloc d (.br t e [])
 |br (d:Nat) (t:Ty) (e:TypeId) (xs:List (bL C t)) (hm:(d,O d)∈Mloc) (h:s.box d=O (.br t e xs)):MC s Yloc ow Mloc Zloc d (.br t e xs)
 |cells (d:Nat) (t:Ty) (cs:List RS) (xs rs:List (R C)) (bs:List (Nat×B C)) (hm:(d,O d)∈Mloc) (h:s.box d=O (.cells t xs)) (hi:qM s cs xs rs bs) (hf:cs.all (RS.Sm ow)=W) (ajf:∀x∈MB cs xs,x∈Mloc) (hz:∀e∈bs,e∈Zloc):MC s Yloc ow Mloc Zloc d (.cells t rs)
 |JT (d:Nat) (b:B C) (hm:(d,O d)∈Mloc) (h:s.box d=O b) (hs:b.still ow=W):MC s Yloc ow Mloc Zloc d b
theorem MC.mono {s:S C} {g:Z Nat} {i:Z (Nat×V Nat)} {Zloc j:Z (Nat×B C)} {b:B C} (h:MC s Yloc ow Mloc Zloc d b) (c:∀x∈Mloc,x∈i) (k:ow=g) (l:∀z∈Zloc,z∈j):MC s Yloc g i j d b:=by
 subst k;cases h with
 |bR d' t e xs a h f=>exact .bR _ d' t e xs (c _ a) h f|nil t e a f m=>exact .nil _ t e (c _ a) f m
 |br t e xs a h=>exact .br _ t e xs (c _ a) h|cells t cs xs rs bs a h hi n o p=>exact .cells _ t cs xs rs bs (c _ a) h hi n (λx q=>c _ (o x q)) λe r=>l _ (p e r)
 |JT _ a h u=>exact .JT _ _ (c _ a) h u
def OG{s:S C}{x i:R C}{bs:Z (Nat×B C)}(h:Item s r x i bs)(c:∀d∈r.p6,d∈ow)(f:∀d t e,r=.bR d t e->Yloc t e):(r.mv x).map (·.1)=bs.map (·.1)/\bs.map (·.1)=r.p6/\∀d b,(d,b)∈bs->MC s Yloc ow (r.mv x) bs d b:=by
 cases h with
 |bR d t e d' xs h=>refine⟨rfl,rfl,λg b a=>?_⟩;simp only[gD,cz]at a;obtain⟨rfl,rfl⟩:=a;exact .bR _ d' t e xs (by simp[RS.mv,HJ]) h (c _ (by simp[RS.p6]))|ZD d t e=>refine⟨rfl,rfl,λg b a=>?_⟩;simp only[gD,cz]at a;obtain⟨rfl,rfl⟩:=a;exact .nil _ t e (by simp[RS.mv,HJ]) (c _ (by simp[RS.p6])) (f _ _ _ rfl)
 |ZF d t e v h=>refine⟨rfl,rfl,λg b a=>?_⟩;simp only[gD,cz]at a;obtain⟨rfl,rfl⟩:=a;exact .nil _ t e (by simp[RS.mv,HJ]) (c _ (by simp[RS.p6])) (f _ _ _ rfl)|ZE d t e=>refine⟨rfl,rfl,λg b a=>?_⟩;simp only[gD,cz]at a;obtain⟨rfl,rfl⟩:=a;exact .nil _ t e (by simp[RS.mv,HJ]) (c _ (by simp[RS.p6])) (f _ _ _ rfl)
 |_=>exact ⟨rfl,rfl,λd b a=>by simp at a⟩
theorem Qb{s:S C}{l:Z (Nat×RS)}{rs:Z (Nat×R C)}{bs:Z (Nat×B C)}(h:CS s l rs bs):(∀d∈tP l,d∈ow)->(∀q d t e,(q,RS.bR d t e)∈l->Yloc t e)->(Rj s l).map (·.1)=bs.map (·.1)/\bs.map (·.1)=tP l/\(∀d b,(d,b)∈bs->MC s Yloc ow (Rj s l) bs d b)/\∀t c,(t,c)∈rs->∃r f,(t,r)∈l/\Item s r (s.bG t) c f/\(∀x∈r.mv (s.bG t),x∈Rj s l)/\∀e∈f,e∈bs:=by
 induction h with
 |nil=>exact λ_ _=>⟨rfl,rfl,(λd b h=>by cases h),λt c h=>by cases h⟩
 |cons h y p=>
  rename_i q r l c rs f A;intro n o;obtain⟨u,a2,v⟩:=OG (ow:=ow) h (λd g=>n d (by simp[tP,g])) (Yloc:=Yloc) λd t e i=>o q d t e (by simp[i]);obtain⟨w,c2,c3,D⟩:=p (λd g=>n d (by simp[tP,g])) λq d t e i=>o q d t e (by simp[i]);refine⟨by simp[Rj,u,w],by simp[tP,a2,c2],λd b a=>?_,λt E j=>?_⟩
  .rcases fK.1 a with a|a
   .exact (v d b a).mono (λx k=>by simp[Rj,k]) rfl λz m=>by simp[m]
   .exact (c3 d b a).mono (λx k=>by simp[Rj,k]) rfl λz m=>by simp[m]
  .simp only[fb,cz]at j;rcases j with⟨rfl,rfl⟩|j
   grind [Rj]
   grind [Rj]
def Qc{s:S C}{xs rs:Z (R C)}{bs:Z (Nat×B C)}(h:qM s l xs rs bs):(∀d∈zm l,d∈ow)->(∀d t e,RS.bR d t e∈l->Yloc t e)->(MB l xs).map (·.1)=bs.map (·.1)/\bs.map (·.1)=zm l/\(∀d b,(d,b)∈bs->MC s Yloc ow (MB l xs) bs d b):=by
 induction h with
 |nil=>exact λ_ _=>⟨rfl,rfl,λd b h=>by cases h⟩
 |cons h q m=>
  intro j k;obtain⟨n,a2,o⟩:=OG (ow:=ow) h (λd c=>j d (by simp[zm,c])) (Yloc:=Yloc) λd t e f=>k d t e (by simp[f]);obtain⟨p,c2,c3⟩:=m (λd c=>j d (by simp[zm,c])) λd t e f=>k d t e (by simp[f]);refine⟨by simp[MB,n,p],by simp[zm,a2,c2],λd b a=>?_⟩;rcases fK.1 a with a|a
  .exact (o d b a).mono (λx g=>by simp[MB,g]) rfl λz i=>by simp[i]
  .exact (c3 d b a).mono (λx g=>by simp[MB,g]) rfl λz i=>by simp[i]
def OH(t:Ty)(e:an):Z (Nat×BS)->Prop
 |[]=>False|(_,.cells _ cs)::l=>(∃d,RS.bR d t e∈cs)∨OH t e l
 |(_,.br _ _)::l=>OH t e l
theorem Qd{s:S C}{l:Z (Nat×BS)}{bs:Z (Nat×B C)}(h:uN s l bs):(∀d∈Cj l,d∈ow)->(∀t e,OH t e l->Yloc t e)->Jx ow l=W->(JS s l).map (·.1)=bs.map (·.1)/\bs.map (·.1)=zn l/\(∀d b,(d,b)∈bs->MC s Yloc ow (JS s l) bs d b)/\(∀x∈JS s l,x.1∈bs.map (·.1)):=by
 induction h with
 |nil=>exact λ_ _ _=>⟨rfl,rfl,(λd b h=>by cases h),λx a=>by cases a⟩
 |cells j hi r o=>
  rename_i d t cs l xs rs u v;intro k m f;simp only[Jx,aP]at f;obtain⟨E,a2,w⟩:=Qc (ow:=ow) (Yloc:=Yloc) hi (λd g=>k d (by simp[Cj,g])) λd t e p=>m t e (.inl ⟨d,p⟩);obtain⟨q,c2,c3,y⟩:=o (λd g=>k d (by simp[Cj,g])) (λt e p=>m t e (.inr p)) f.2;have A:JS s ((d,.cells t cs)::l)=(d,O d)::(MB cs xs++JS s l):=by simp only[JS,j]
  rw[A];refine⟨by grind,by simp[zn,a2,c2],λn b c=>?_,λx a=>?_⟩
  .simp only[fb,fK,cz]at c;rcases c with⟨rfl,rfl⟩|c|c
   .exact .cells _ t cs xs rs u aH j hi f.1 (λx a=>by simp[a]) λe D=>by simp[D]
   .exact (w n b c).mono (λx a=>by simp[a]) rfl λz i=>by simp[i]
   .exact (c3 n b c).mono (λx a=>by simp[a]) rfl λz i=>by simp[i]
  grind
 |br j r o=>
  rename_i d t e l xs v;intro k m f;obtain⟨q,c2,c3,y⟩:=o (λd g=>k d (by simpa[Cj]using g)) m f;refine⟨by simp[JS,q],by simp[zn,c2],λn b c=>?_,λx a=>?_⟩
  .simp only[fb,cz]at c;rcases c with⟨rfl,rfl⟩|c
   .exact .br _ t e xs (by simp[JS]) j
   .exact (c3 n b c).mono (λx a=>by simp[JS,a]) rfl λz i=>by simp[i]
  .have:x.1∈(JS s ((d,.br t e)::l)).map (·.1):=gC.2 ⟨x,a,rfl⟩;simpa[JS,q]using this
theorem uP{β:Type}{p:β->aa}{d s:Z (Nat×Nat×β)}:∀{l:Z Nat},Cl p d s l=W->∀t∈l,∃st x y,aF d t=O (st,x)/\aF s t=O (st,y)/\p x=W
 |[],_,t,c=>by cases c
 |g::l,h,t,c=>by
  simp only[Cl]at h;split at h
  .rename_i a x b y i j;simp only[aP]at h;obtain⟨⟨e,k⟩,f⟩:=h;obtain rfl:=cC e;simp only[fb]at c;rcases c with rfl|c
   grind
   .exact uP f t c
  .cases h
theorem kI{β:Type}{b:Z (Nat×Nat×β)}:∀{l:Z Nat}{t st:Nat}{x:β},(t,st,x)∈p8 b l->t∈l/\aF b t=O (st,x)
 |[],t,st,x,h=>by cases h
 |e::l,t,st,x,h=>by
  simp only[p8]at h;split at h
  .rename_i a y f;simp only[fb,cz]at h;rcases h with⟨rfl,rfl,rfl⟩|h
   grind
   .obtain ⟨c,d⟩:=kI h
    grind
  .obtain ⟨c,d⟩:=kI h
   grind
theorem FG{β:Type}{p:β->aa}{c s:Z (Nat×Nat×β)}:∀{l:Z Nat},Cl p c s l=W->(p8 c l).map (·.1)=l
 |[],_=>rfl|t::l,h=>by
  simp only[Cl]at h;split at h
  .rename_i a x b y d e;simp only[aP]at h;simp only[p8,d,gb,FG h.2]
  .cases h
end
def lc:Z (Nat×V Nat)->Nat->V Nat
 |[],_=>Y|(e,o)::l,d=>if e=d then o else lc l d
theorem yk{d d':Nat}:∀{Mloc:Z (Nat×V Nat)},lc Mloc d=O d'->(d,O d')∈Mloc
 |[],h=>by cases h
 |(e,o)::l,h=>by
  simp only[lc]at h;split at h
  grind
  .exact IX _ (yk h)
theorem ld{d:Nat}{o:V Nat}:∀{Mloc:Z (Nat×V Nat)},(Mloc.map (·.1)).Nodup->(d,o)∈Mloc->lc Mloc d=o
 |[],_,h=>by cases h
 |(e,b)::l,a,h=>by
  simp only[gb,oc]at a;simp only[fb,cz]at h;simp only[lc];rcases h with⟨rfl,rfl⟩|h
  .simp
  .have:e≠d:=λc=>a.1 (by grind);rw[ao this];exact ld a.2 h
theorem nJ{β:Type}{d st:Nat}{x:β}:∀{l:Z (Nat×Nat×β)},(l.map (·.1)).Nodup->(d,st,x)∈l->aF l d=O (st,x)
 |[],_,h=>by cases h
 |(e,b,y)::l,a,h=>by
  simp only[gb,oc]at a;simp only[fb,cz]at h;rw[aT];rcases h with⟨rfl,rfl,rfl⟩|h
  .simp
  .have:e≠d:=λc=>a.1 (by grind);rw[ao this];exact nJ a.2 h
section
variable{P:ai}{E:cd}{U:cp}{T:dt U.C}{X:gy U}{w0:af}{I0:aA}{n:Nat}{s:S U.C}{q:St}{α:Type}{out:α}
variable(L:cD U T)
def Qe(T:dt U.C)(a:Z (Nat×Nat×B U.C))(d:Nat):V Bx:=match aF a d with
 |some (_,.br t e xs)=>O (.br e (List.map (enc T t) xs))|some (_,.cells _ _)=>O (.cells [])
 |none=>Y
def qA(T:dt U.C)(c:Z (Nat×Nat×B U.C))(q:St):St:={r:=λ_=>.none,b:=Qe T c,g:=λ_=>1,a:=q.a,u:=q.u,df:=q.df}
theorem lV{n:Z (Nat×Nat×B U.C)}{Zloc:Z (Nat×B U.C)}(A:(Mloc.map (·.1)).Nodup)(C:∀d st b,aF n d=O (st,b)->MC s Yloc ow Mloc Zloc d b)(o:aU P E T X s q){x:R U.C}(a:x.still ow=W)(c:bA P E T s.b q.g s.tick x u)(tick:Nat):
  ∃D,Ev.fI q (qA T n q) (lc Mloc) u D/\bA P E T n (λ_=>1) tick x D:=by
 have I:∀av,bz u=O av->Ev.fI q (qA T n q) (lc Mloc) u u:=λav h=>by
  cases u<;>simp[bz]at h
  .exact .val _
  .exact .bF _
 cases x with
 |none=>exact ⟨.none,.none _,.none _⟩|val t v=>
  cases c with
  |val _ _ _ av j hv=>exact ⟨u,I av j,.val t v u av j hv⟩
 |const v=>
  cases c with
  |const _ J=>
   refine⟨cB v,?_,.const v J⟩;unfold cB;split
   .exact .bF _
   .exact .val _
   .exact .val _
 |bF t xs=>
  cases c with
  |bF _ _ g=>exact ⟨_,.bF _,.bF t xs g⟩
 |dT d k=>
  cases p:aF n d with
  |none=>exact ⟨.none,.none _,.dT d k _ λst u' rs h=>by grind⟩|some e=>
   obtain⟨st,b⟩:=e;cases b with
   |br t e xs=>exact ⟨.none,.none _,.dT d k _ λst u' rs h=>by grind⟩|cells t rs=>
    have l:∃w xs,s.box d=O (.cells w xs)/\(d,O d)∈Mloc:=by
     cases C d st _ p with
     |cells _ cs xs _ bs m h hi c0 d0 e0=>grind|JT _ m h K=>grind
    obtain⟨w,xs,l,m⟩:=l;have y:=jN o c l;obtain⟨_,_,cs,j,_⟩:=o.cells l;subst y;exact⟨.dT d 1 0 0 k,.dT d d k (ld A m) (by grind),.dT d k _ λst u' rs h=>rfl⟩
 |whole d=>
  simp only[R.still,iB]at a;cases p:aF n d with
  |none=>exact ⟨.none,.none _,.whole d _ λst t e xs h=>by grind⟩|some e=>
   obtain⟨st,b⟩:=e;cases b with
   |cells t rs=>exact ⟨.none,.none _,.whole d _ λst t e xs h=>by grind⟩|br t e xs=>
    have l:s.box d=O (.br t e xs)/\(d,O d)∈Mloc:=by
     cases C d st _ p with
     |bR d' _ _ _ m h g=>rw[ck.2 g]at a;cases a
     |nil _ _ m g f0=>rw[ck.2 g]at a;cases a
     |br _ _ _ m h=>grind|JT _ m h K=>grind
    obtain⟨l,m⟩:=l;have y:=fG o c l;obtain⟨_,j⟩:=o.br l;subst y;refine⟨.view d 1 0 xs.length,.view d d _ e (List.map (enc T t) xs) (ld A m) j (by simp[qA,Qe,p]),.whole d _ λg0 w e' h0 h=>?_⟩
    grind
 |gq _ _ _ _ _ _=>cases a
 |dF t v k=>
  cases c with
  |dF _ _ _ g=>exact ⟨_,.val _,.dF t v k g⟩
 |it k=>
  cases c with
  |it=>exact ⟨_,.val _,.it k⟩
 |gw _=>cases a
 |sub _ _ _=>cases a
 |sN _=>cases a
 |nF r=>
  cases r with
  |val t v=>
   cases c with
   |nF _ av h=>
    cases h with
    |val _ _ _ z j hv=>exact ⟨_,.val _,.nF _ _ (.val t v _ z j hv)⟩
  |_=>cases a
 |agg _ _=>cases a
 |mc _ _=>cases a
 |hk t=>
  cases c with
  |hk _ g=>exact ⟨_,.val _,.hk t g⟩
 |fn f caps=>
  cases c with
  |fn _ _ L N Q=>
   refine⟨_,.val _,.fn f caps L N λi r av G S=>?_⟩;have H:=Q i r av G S;simp only[R.still,di]at a;have:=a r (bW G);cases r with
   |val t v=>
    cases H with
    |val _ _ _ z j hv=>exact .val t v _ z j hv
   |dF t v k=>
    cases H with
    |dF _ _ _ g=>exact .dF t v k g
   |_=>cases this
 |mR a0 t v=>
  cases c with
  |mR _ _ _ g=>exact ⟨_,.val _,.mR a0 t v g⟩
 |jy k i off=>cases c;exact⟨_,.val _,.jy k i off⟩
 |kq k i b0 off=>cases c;exact⟨_,.val _,.kq k i b0 off⟩
theorem FH{c:Z (Nat×Nat×B U.C)}{Zloc:Z (Nat×B U.C)}(f:(Mloc.map (·.1)).Nodup)(w:(c.map (·.1)).Nodup)(n:∀d st b,aF c d=O (st,b)->MC s Yloc ow Mloc Zloc d b)(g:aU P E T X s q){x A:R U.C}{C:Z (Nat×B U.C)}(hi:Item s r x A C)(o:∀y∈r.mv x,y∈Mloc)(p:∀e∈C,∃st,(e.1,st,e.2)∈c)(K:r.Sm ow=W)(a:bA P E T s.b q.g s.tick x u)(tick:Nat):
  ∃j,Ev.fI q (qA T c q) (lc Mloc) u j/\bA P E T c (λ_=>1) tick A j:=by
 have D:∀(d:Nat)(t:Ty)(e:an),u=.bF []->(d,Y)∈Mloc->(∃st,(d,st,B.br t e [])∈c)->∃j,Ev.fI q (qA T c q) (lc Mloc) u j/\bA P E T c (λ_=>1) tick (.whole d) j:=by
  rintro d t e rfl l ⟨st,i⟩;have m:=nJ w i;refine⟨.view d 1 0 0,.nil d e (ld f l) (by simp[qA,Qe,m]),.whole d _ λG H e' I h=>?_⟩
  grind
 cases hi with
 |val t x v hv=>
  obtain⟨av,J,L⟩:=oA a hv;refine⟨u,?_,.val t v u av J L⟩;cases u<;>simp[bz]at J
  .exact .val _
  .exact .bF _
 |bF t xs=>exact lV f n g rfl a tick|dT d k=>exact lV f n g rfl a tick
 |whole d=>exact lV f n g (by simpa[R.still,RS.Sm]using K) a tick|bR d t e d' xs i=>
  have l:=o (d,O d') (by simp[RS.mv,HJ]);obtain⟨st,N⟩:=p (d,.br t e xs) aH;have m:=nJ w N;have Q:=fG g a i;obtain⟨_,S⟩:=g.br i;subst Q;refine⟨.view d 1 0 xs.length,.view d d' _ e (List.map (enc T t) xs) (ld f l) S (by simp[qA,Qe,m]),.whole d _ λG H e' I h=>?_⟩
  grind
 |ZD d t e=>refine D d t e ?_ (o (d,Y) (by simp[RS.mv,HJ])) (p (d,.br t e []) aH);cases a;rfl
 |ZF d t e v hv=>
  refine D d t e ?_ (o (d,Y) (by simp[RS.mv,HJ])) (p (d,.br t e []) aH);unfold fE at hv;split at hv
  .cases a;rfl
  .cases hv
 |ZE d t e=>
  have l:=o (d,Y) (by simp[RS.mv,HJ]);obtain⟨st,i⟩:=p (d,.br t e []) aH;cases a with
  |hk _ _=>
   have m:=nJ w i;refine⟨.view d 1 0 0,.hk d e (ld f l) (by simp[qA,Qe,m]),.whole d _ λG H e' I h=>?_⟩
   grind
 |dF t z k=>exact lV f n g rfl a tick
def OI{s2 g:St}{φ:Nat->V Nat}{i:cH}(h:Ev.fI q s2 φ u i)(f:∀d e xs,s2.b d=O (.br e xs)->g.b d=O (.br e xs)):Ev.fI q g φ u i:=by
 cases h with
 |none u=>exact .none u|val a=>exact .val a
 |bF xs=>exact .bF xs|dT d d' k b c=>exact .dT d d' k b c
 |view d d' len e xs b c j=>exact .view d d' len e xs b c (f _ _ _ j)|nil d e b c=>exact .nil d e b (f _ _ _ c)
 |hk d e b c=>exact .hk d e b (f _ _ _ c)
def MD{s:S C}{bs:Z (Nat×B C)}(h:qM s l xs rs bs):rs.length=xs.length:=by
 induction h with
 |nil=>rfl|cons _ _ a=>simp[a]
theorem ME{s:S C}{bs:Z (Nat×B C)}(h:qM s l xs rs bs):∀(i:Nat)(x a:R C),xs[i]?=O x->rs[i]?=O a->∃r b,r∈l/\Item s r x a b/\(∀y∈r.mv x,y∈MB l xs)/\∀e∈b,e∈bs:=by
 induction h with
 |nil=>grind|cons h c d=>grind [MB]
end
section
variable{P:ai}{E:cd}{U:cp}{T:dt U.C}{X:gy U}{w0:af}{I0:aA}{n:Nat}{α:Type}{out:α}
variable(L:cD U T)
theorem nW{st:Nat}{b:B C}{bs:Z (Nat×B C)}(h:(d,st,b)∈iq tick bs):st=tick/\(d,b)∈bs:=by
 unfold iq at h
 grind
theorem FI{e:Nat×B C}{bs:Z (Nat×B C)}(h:e∈bs):(e.1,tick,e.2)∈iq tick bs:=gC.2 ⟨e,h,rfl⟩
theorem Qf(tick:Nat)(bs:Z (Nat×B C)):(iq tick bs).map (·.1)=bs.map (·.1):=by simp[iq]
def sa{X:gy U}{t:Ty}{e:an}:∀{l:Z (Nat×BS)},Cn X l=W->OH t e l->X.ty e=O t
 |[],_,h=>h.elim|(_,.cells _ cs)::l,a,h=>by
  simp only[Cn,aP,di]at a;rcases h with⟨d,h⟩|h
  .exact e4 (a.1 _ h)
  .exact sa a.2 h
 |(_,.br _ _)::l,a,h=>sa (l:=l) a h
theorem JU:∀l:Z Nat,(l.map λd=>(d,O d)).filterMap (·.2)=l
 |[]=>rfl|d::l=>by simp[JU l]
theorem zC{A B D:Type}{R:A->B->D->Prop}:∀(c:Z A)(e:Z B),c.length=e.length->(∀(i:Nat)(a:A)(b:B),c[i]?=O a->e[i]?=O b->∃d,R a b d)->∃f:Z D,f.length=c.length/\∀(i:Nat)(a:A)(b:B)(d:D),c[i]?=O a->e[i]?=O b->f[i]?=O d->R a b d
 |[],[],_,_=>⟨[],rfl,λi a b d h=>by simp at h⟩|[],_::_,h,_=>by simp at h
 |_::_,[],h,_=>by simp at h|a::c,b::e,k,h=>by
  obtain⟨f,g,j⟩:=zC c e (by grind) λi a' b' g j=>h (i+1) a' b' (by grind) (by grind);obtain⟨d,l⟩:=h 0 a b rfl rfl;refine⟨d::f,by simp[g],λi a' b' d' m n o=>?_⟩
  grind
theorem V6{a s:S U.C}:∀{b:aa}{z:HT U.C b},abp b a s=O z->bw a s->Mi b a z=s.h
 |true,z,hz,_=>(cJ hz).symm|false,z,hz,d=>by have hz:(bif Nat.beq a.hv s.hv&&Nat.blt a.hv a.tick then O ()else Y)=O z:=hz;obtain⟨c,_⟩:=az hz;simp only[aP,jq]at c;have e:=cC c.1;exact(d.h (by grind)).2.symm
def Qg{a:S U.C}:∀{b:aa}(z:HT U.C b),Cm b a<a.tick->Cm b a=a.hv/\Mi b a z=a.h
 |true,z,h=>absurd h (Nat.lt_irrefl _)|false,z,h=>⟨rfl,rfl⟩
include L in
theorem wI(Q0:bJ P E T X){j:Sh}(l0:j.tQ X=W){f s:S U.C}{x:HL U.C j.Zr×HT U.C j.h}{R0 q:St}(e0:aU P E T X f R0)(f0:bw f s)(G:aU P E T X s q)(h:j.pZ f s=O x):
  ∃Q,jc P E w0 I0 n q Q/\aU P E T X (j.load f x) Q/\bw f (j.load f x):=by
 unfold Sh.pZ at h;obtain⟨y0,h⟩:=az h;simp only[aP]at y0;obtain⟨S0,T0,H1,U0,X0,e1⟩:=y0;simp only[Sh.tQ,aP,di]at l0;split at h
 .rename_i I1 i1;split at h
  .rename_i y z N a0;obtain rfl:=cJ h;obtain⟨g0,j1,J1⟩:=yi f.tick _ _ i1;obtain⟨rs,h0,l1,K1⟩:=FE f.tick _ _ _ _ N;have m1:j.load f (y,z)={r:=rs.map (λe=>(e.1,f.tick,e.2))++p8 f.r j.eP,b:=iq f.tick h0++(iq f.tick g0++p8 f.b j.tO),tick:=f.tick+1,h:=Mi j.h f z,hv:=Cm j.h f,m:=f.m}:=by grind [Sh.load,p7,k8,iq]
   rw[m1];generalize i0:iq f.tick h0++(iq f.tick g0++p8 f.b j.tO)=l;obtain⟨n1,a2,a3,o1⟩:=Qb (Yloc:=λt e=>X.ty e=O t) (ow:=j.p6) l1 (λd d0=>by simp[Sh.p6,d0]) λq d t e hm=>e4 (l0.1 _ hm);obtain⟨p1,b2,q1,_⟩:=Qd (Yloc:=λt e=>X.ty e=O t) (ow:=j.p6) j1 (λd d0=>by simp[Sh.p6,d0]) (λt e hm=>sa l0.2 hm) e1;generalize A0:Rj s j.ct++(JS s j.bD++j.tO.map λd=>(d,O d))=Mloc;have r1:Mloc.map (·.1)=tP j.ct++(zn j.bD++j.tO):=by rw[<-A0];simp only[IW,n1,a2,p1,b2,AW];congr 2;exact(EY λa _=>rfl).trans (List.map_id _)
   have L1:l.map (·.1)=tP j.ct++(zn j.bD++j.tO):=by grind [Qf,FG]
   have b0:(Mloc.map (·.1)).Nodup:=by rw[r1];exact uO U0
   have B0:(l.map (·.1)).Nodup:=by grind
   have s1:(Mloc.filterMap (·.2)).Nodup:=by grind [OE,HK,JU,uO]
   have t1:∀d∈j.tO,∃st b,aF f.b d=O (st,b)/\aF s.b d=O (st,b)/\b.still j.p6=W:=λd d0=>by
    obtain⟨st,b,b',k,o,H⟩:=uP T0 d d0;have:=f0.b d st b' o (e0.Ez d st b k)
    grind
   have u1:∀t∈j.eP,∃st r,aF f.r t=O (st,r)/\aF s.r t=O (st,r)/\r.still j.p6=W:=λt v1=>by
    obtain⟨st,r,C0,k,o,H⟩:=uP S0 t v1;have:=f0.r t st C0 o (e0.zo t st r k)
    grind
   have c0:∀d st b,aF l d=O (st,b)->MC s (λt e=>X.ty e=O t) j.p6 Mloc (h0++g0) d b:=λd st b A=>by
    have hm:=gz A;rw[<-i0]at hm;rcases fK.1 hm with hm|hm
    .exact (a3 d b (nW hm).2).mono (λx I=>by grind) rfl λz a0=>by simp[a0]
    .rcases fK.1 hm with hm|hm
     .exact (q1 d b (nW hm).2).mono (λx I=>by grind) rfl λz a0=>by simp[a0]
     .obtain ⟨k,o⟩:=kI hm;obtain⟨D0,b',H,m0,n0⟩:=t1 d k;rw[o]at H;simp only[aN,cz]at H;obtain⟨rfl,rfl⟩:=H;refine .JT d b (by rw[<-A0];simp[k]) ?_ n0;unfold S.box;rw[m0]
   have E0:∀e∈h0++g0,∃st,(e.1,st,e.2)∈l:=λe he=>by
    refine⟨f.tick,?_⟩;rw[<-i0];rcases fK.1 he with he|he
    grind [FI]
    .exact fK.2 (.inr (fK.2 (.inl (FI he))))
   have w1:∀t,∃G0,Ev.fI q (qA T l q) (lc Mloc) (q.r t) G0/\bA P E T l (λ_=>1) (f.tick+1) (S.bG (C:=U.C) {r:=rs.map (λe=>(e.1,f.tick,e.2))++p8 f.r j.eP,b:=l,tick:=f.tick+1,h:=Mi j.h f z,hv:=Cm j.h f,m:=f.m} t) G0:=λt=>by
    rw[S.ib];simp only;cases A:aF (rs.map (λe=>(e.1,f.tick,e.2))++p8 f.r j.eP) t with
    |none=>exact ⟨.none,.none _,.none _⟩|some e=>
     obtain⟨st,v⟩:=e;simp only;rcases fK.1 (gz A)with hm|hm
     .obtain ⟨e,he,k⟩:=gC.1 hm;simp only[cz]at k;obtain⟨k,o,H⟩:=k;have x1:(t,v)∈rs:=by grind
      obtain⟨r,K,o0,c2,c3,H0⟩:=o1 t v x1;exact FH b0 B0 c0 G c2 (λy N=>by grind) (λe he=>E0 e (by grind)) (di.1 X0 _ o0) (G.ct t) _
     .obtain ⟨k,o⟩:=kI hm;obtain⟨D0,C0,H,m0,n0⟩:=u1 t k;rw[o]at H;simp only[aN,cz]at H;obtain⟨rfl,rfl⟩:=H;have J:=G.ct t;rw[S.ib,m0]at J;exact lV b0 c0 G n0 J _
   have y1:∀d,∃L:Z cH,∀st t rs,aF l d=O (st,.cells t rs)->fD t=W/\bB U D t=rs.length/\lc Mloc d=O d/\∃cs,q.b d=O (.cells cs)/\cs.length=L.length/\rs.length=L.length/\∀(i:Nat)(v:R U.C)(c c2:cH),rs[i]?=O v->cs[i]?=O c->L[i]?=O c2->Ev.fI q (qA T l q) (lc Mloc) c c2/\bA P E T l (λ_=>1) (f.tick+1) v c2:=λd=>by
    cases A:aF l d with
    |none=>simp_all|some e=>
     obtain⟨st,b⟩:=e;cases b with
     |br t e xs=>simp_all|cells t j0=>
      have p0:∀xs:Z (R U.C),s.box d=O (.cells t xs)->(d,O d)∈Mloc->j0.length=xs.length->(∀(i:Nat)(x v:R U.C)(c:cH),xs[i]?=O x->j0[i]?=O v->bA P E T s.b q.g s.tick x c->∃c2,Ev.fI q (qA T l q) (lc Mloc) c c2/\bA P E T l (λ_=>1) (f.tick+1) v c2)->∃L:Z cH,∀st t rs,aF l d=O (st,.cells t rs)->fD t=W/\bB U D t=rs.length/\lc Mloc d=O d/\∃cs,q.b d=O (.cells cs)/\cs.length=L.length/\rs.length=L.length/\∀(i:Nat)(v:R U.C)(c c2:cH),rs[i]?=O v->cs[i]?=O c->L[i]?=O c2->Ev.fI q (qA T l q) (lc Mloc) c c2/\bA P E T l (λ_=>1) (f.tick+1) v c2:=by
       intro xs p hm hlen A1;obtain⟨k0,g2,cs,g3,g4⟩:=G.cells p;obtain⟨L,f1,B1⟩:=zC (R:=λ(v:R U.C)(c c2:cH)=>Ev.fI q (qA T l q) (lc Mloc) c c2/\bA P E T l (λ_=>1) (f.tick+1) v c2) j0 cs (by rw[hlen,g4.1]) λi v c k o=>by
        have hi:i<xs.length:=by grind
        exact A1 i xs[i] v c (by simp[hi]) k (g4.2 i xs[i] c (by simp[hi]) o)
       refine⟨L,λD0 N1 P1 h=>?_⟩;rw[A]at h;simp only[aN,cz,B.cells.injEq]at h;obtain⟨_,rfl,rfl⟩:=h;exact⟨k0,by grind,ld b0 hm,cs,g3,by rw[f1,hlen,g4.1],f1.symm,λi v c c2 k o H=>B1 i v c c2 k o H⟩
      rw[A]at p0;have he:=c0 d st _ A;cases he with
      |cells _ cs xs _ bs hm p hi C1 D1 a0=>refine p0 xs p hm (MD hi) λi x v c k o J=>?_;obtain⟨r,K,o0,c2,c3,H0⟩:=ME hi i x v k o;exact FH b0 B0 c0 G c2 (λy N=>D1 y (c3 y N)) (λe he=>E0 e (a0 e (H0 e he))) (di.1 C1 _ o0) J _|JT _ hm p J0=>refine p0 j0 p hm rfl λi x v c k o J=>?_;rw[k]at o;simp only[aN]at o;subst o;simp only[B.still,di]at J0;exact lV b0 c0 G (J0 x (bW k)) J _
   obtain⟨E1,K0⟩:=Classical.axiomOfChoice y1;obtain⟨Rf,L0⟩:=Classical.axiomOfChoice w1;let K:Nat->V Bx:=λd=>match aF l d with
    |some (_,.br t e xs)=>O (.br e (List.map (enc T t) xs))|some (_,.cells _ _)=>O (.cells (E1 d))
    |none=>Y
   let Q:St:={r:=Rf,b:=K,g:=λ_=>1,a:=q.a,u:=q.u,df:=q.df}
   have N0:∀d e xs,(qA T l q).b d=O (.br e xs)->Q.b d=O (.br e xs):=λd e xs h=>by
    simp only[qA,Qe]at h;show K d=_;simp only[K];cases A:aF l d with
    |none=>simp_all|some e=>
     obtain⟨st,b⟩:=e;rw[A]at h;cases b with
     |br t e xs=>exact h|cells t rs=>simp at h
   refine⟨Q,λa w G1=>?_,?_,⟨rfl,cO _,λt st r J r0=>?_,λd st b p r0=>?_,λt0=>?_⟩⟩;rotate_left;rotate_left
   .rcases fK.1 (gz J)with hm|hm
    .obtain ⟨e,he,k⟩:=gC.1 hm;simp only[cz]at k;omega
    .exact (kI hm).2
   .have hm:=gz p;simp only[<-i0]at hm;rcases fK.1 hm with hm|hm
    .have:=(nW hm).1;omega
    .rcases fK.1 hm with hm|hm
     .have:=(nW hm).1;omega
     .exact (kI hm).2
   .exact Qg z t0
   .refine SX (s:=q) (s2:=Q) (φ:=lc Mloc) rfl rfl rfl (λ_=>rfl) (λQ1 R1 d' k o _ _=>yj s1 (yk k) (yk o)) (λt=>OI (L0 t).1 N0) (λd x I=>?_) G1;have I:K d=O x:=I;simp only[K]at I;cases A:aF l d with
    |none=>rw[A]at I;cases I
    |some e=>
     obtain⟨st,b⟩:=e;rw[A]at I;have he:=c0 d st b A;cases b with
     |br t e xs=>
      simp only[aN]at I;subst I;have src:∀d',(d,O d')∈Mloc->s.box d'=O (.br t e xs)->∃d' P0,lc Mloc d=O d'/\q.b d'=O P0/\HI q Q (lc Mloc) P0 (.br e (List.map (enc T t) xs)):=λd' hm p=>⟨d',_,ld b0 hm,(G.br p).2,.br e _⟩
      cases he with
      |bR d' _ _ _ hm p u0=>exact .inr (src d' hm p)|nil _ _ hm u0 N=>exact .inl ⟨ld b0 hm,e,rfl,(Q0.ty _ _ N).pos⟩
      |br _ _ _ hm p=>exact .inr (src d hm p)|JT _ hm p r0=>exact .inr (src d hm p)
     |cells t rs=>
      simp only[aN]at I;subst I;obtain⟨k0,g2,g3,cs,g4,g5,g6,x0⟩:=K0 d st t rs A;refine .inr ⟨d,_,g3,g4,.cells cs _ g5 λi c c2 k o=>?_⟩;have hi:i<rs.length:=by rw[g6,<-g5];exact (cr.1 k).1
      exact OI (x0 i rs[i] c c2 (by simp[hi]) k o).1 N0
   .refine ⟨λt=>(L0 t).2,λd=>?_,λt st r J=>?_,λd st b p=>?_,?_,G.df⟩
    .show oz P E T X l (λ_=>1) (f.tick+1) (aF l d) (K d);simp only[K];cases A:aF l d with
     |none=>trivial|some e=>
      obtain⟨st,b⟩:=e;have he:=c0 d st b A;cases b with
      |br t e xs=>
       refine⟨?_,rfl⟩;cases he with
       |bR d' _ _ _ hm p u0=>exact (G.br p).1|nil _ _ hm u0 N=>exact N
       |br _ _ _ hm p=>exact (G.br p).1|JT _ hm p r0=>exact (G.br p).1
      |cells t rs=>
       obtain⟨k0,g2,g3,cs,g4,g5,g6,x0⟩:=K0 d st t rs A;refine⟨k0,g2,_,rfl,g6,λi r c k o=>?_⟩;have hi:i<cs.length:=by rw[g5];exact (cr.1 o).1
       exact(x0 i r cs[i] c k (by simp[hi]) o).2
    .show st<f.tick+1;rcases fK.1 (gz J)with hm|hm
     .obtain ⟨e,he,k⟩:=gC.1 hm;simp only[cz]at k;omega
     .have:=e0.zo _ _ _ (kI hm).2;omega
    .show st<f.tick+1;have hm:=gz p;rw[<-i0]at hm;rcases fK.1 hm with hm|hm
     .have:=(nW hm).1;omega
     .rcases fK.1 hm with hm|hm
      .have:=(nW hm).1;omega
      .have:=e0.Ez _ _ _ (kI hm).2;omega
    .have t0:Mi j.h f z=s.h:=V6 a0 f0;show fB T f.m (Mi j.h f z) q.a q.u;rw[t0];have:=G.heap;rw[f0.m]at this;exact this
  .cases h
 .cases h
end
def eJ(n:Nat):bT->aa
 |.region _ ops _=>ju n ops|.seq a b=>eJ n a&&eJ n b
 |.cond c a b=>xN n c&&(eJ n a&&eJ n b)|.block _ a=>eJ n a
 |.loop a=>eJ n a|.scope a=>eJ n a
 |_=>W
def ae:Ex->e7
 |.normal=>.normal|.exit id=>.exit id
 |.ret=>.ret
section
variable{P:ai}{E:cd}{U:cp}{T:dt U.C}{X:gy U}{w0:af}{I0:aA}{n:Nat}{α:Type}{out:α}{kx:o8 U->S U.C->V α}{esc:Z (Nat×Nat)}
variable(L:cD U T)
def HM(P:ai)(E:cd)(T:dt U.C)(X:gy U)(w0:af)(I0:aA)(n:Nat)(esc:Z (Nat×Nat))(sB:S U.C)(out:α):Prop:=((∃k,sB.m k=W)->E.cT=F)->∀(id:Nat)(ops:Array aC)(hint:e9)(s:S U.C)(K:S U.C->V α)(q:St)(Q:e7->St->Prop)(Zloc:AV->St->Prop)(kx:o8 U->S U.C->V α),(∀av a,XE P E T X sB kx out av a->Zloc av a)->ju n ops=W->bw sB s->Sn X esc kx hint ops s K=O out->aU P E T X s q->(∀s' a,aU P E T X s' a->bw s s'->K s'=O out->Q .normal a)->nC P E w0 I0 n (.region id ops W) Q Zloc q
include L in
theorem SZ(c:bJ P E T X){sB s:S U.C}(d:(∃k,sB.m k=W)->E.cT=F)(e:bw sB s){id:Nat}{ops:Array aC}(f:ju n ops=W){K:S U.C->V α}(h:mE X kx esc ops ops.toList s K=O out){q:St}(g:aU P E T X s q)
  (i:∀s' b,aU P E T X s' b->bw s s'->K s'=O out->Q .normal b) (l:∀av b,XE P E T X s kx out av b->Zloc av b):nC P E w0 I0 n (.region id ops F) Q Zloc q:=by
 intro a w m;refine oh ?_;have:=sV (w0:=w0) (I0:=I0) L c (sB:=s) (by rw[e.m];exact d) f (Q:=Q) (Zloc:=Zloc) (λb ⟨s',o,p,r⟩=>i s' b o p r) l ops.toList 0 s q a w (λj=>aH) (.refl s) h g m;simpa[Lz]using this
def XE.up {sB s:S U.C} (a:bw sB s) {q:St} (h:XE P E T X s kx out av q):XE P E T X sB kx out av q:=by obtain⟨p,s',b,c,d⟩:=h;exact⟨p,s',b,a.trans c,d⟩
def qN(s:S U.C)(c:ah)(b:aa):bw s (s.x6 c b):=by
 unfold S.x6;split
 .split
  .exact bi _ _
  .exact .refl s
 .exact .refl s
def aU.x6 {s:S U.C} {q:St} (a:aU P E T X s q) {c:ah} {b:aa} (h:q.ev c=.val (.fl (.bool b))):aU P E T X (s.x6 c b) q:=by
 unfold S.x6;split
 .rename_i t;split
  .refine a.Qa ?_;have h:q.r t=.val (.fl (.bool b)):=h;rw[h];exact bn (t:=.bool) rfl
  .exact a
 .exact a
include L in
theorem kk(J:bJ P E T X){sB:S U.C}(d0:(∃k,sB.m k=W)->E.cT=F)(i0:HM P E T X w0 I0 n esc sB out)(e0:∀av d,XE P E T X sB kx out av d->Zloc av d):
  ∀(c:bT)(hint:e9)(s:S U.C)(k:Ex->S U.C->V α)(q:St)(Q:e7->St->Prop),eJ n c=W->bw sB s->gX X kx esc c hint s k=O out->aU P E T X s q->(∀e s' d,aU P E T X s' d->bw s s'->k e s'=O out->Q (ae e) d)->nC P E w0 I0 n c Q Zloc q:=by
 intro c;induction c with
 |skip=>intro hint s k q Q o t h i f;exact RF (f .normal s q i (.refl s) h)|label l=>intro hint s k q Q o t h i f;exact PI (f .normal s q i (.refl s) h)
 |exit id=>intro hint s k q Q o t h i f;exact RG (f (.exit id) s q i (.refl s) h)|ret=>intro hint s k q Q o t h i f;exact VD (f .ret s q i (.refl s) h)
 |region id ops j0=>
  intro hint s k q Q o t h i f;unfold gX at h;rw[S.Ce]at h;cases j0 with
  |true=>exact i0 d0 id ops hint s _ q Q Zloc kx e0 o t h i λs' d r p g=>f .normal s' d r p g|false=>exact SZ L J d0 t o h i (λs' d r p g=>f .normal s' d r p g) λav d w=>e0 av d (w.up t)
 |cond c a b N R=>
  intro hint s k q Q o t h i f;simp only[eJ,aP]at o;have f0:∀(A:aa)(u v:e9),zi (s.ev c)=O A->cond A (gX X kx esc a u (s.x6 c W) k) (gX X kx esc b v (s.x6 c F) k)=O out->nC P E w0 I0 n (.cond c a b) Q Zloc q:=λA u v H h=>by
   have k0:ca c=W:=by
    have:=o.1;unfold xN at this
    grind
   have a0:=lR (i.ev c k0) H;refine Zc o.1 a0 (λe=>?_) (λe=>?_)
   .subst e;exact N u _ k q Q o.2.1 (t.trans (qN ..)) h (i.x6 a0) λe s' d r p g=>f e s' d r ((qN ..).trans p) g
   .subst e;exact R v _ k q Q o.2.2 (t.trans (qN ..)) h (i.x6 a0) λe s' d r p g=>f e s' d r ((qN ..).trans p) g
  unfold gX at h;split at h
  .rename_i A u v H;exact f0 A u v H h
  .rename_i A H q0;exact f0 A .leaf .leaf H h
  .cases h
 |seq a b N R=>
  intro hint s k q Q o t h i f;simp only[eJ,aP]at o;have g0:∀u v:e9,gX X kx esc a u s (λe s'=>match e with
    |.normal=>gX X kx esc b v s' k|e=>k e s')=O out->nC P E w0 I0 n (.seq a b) Q Zloc q:=λu v h=>by
   refine vP λK b0=>N u s _ q _ o.1 t h i λe s' d r p g=>?_;cases e with
   |normal=>exact b0 d (R v s' k d Q o.2 (t.trans p) g r λe s2 z g1 g2 C=>f e s2 z g1 (p.trans g2) C)|exit id=>exact f (.exit id) s' d r p g
   |ret=>exact f .ret s' d r p g
  unfold gX at h;split at h
  .rename_i j u v;rw[S.Ce]at h;cases D:j.tQ X with
   |false=>grind|true=>
    rw[D]at h;have h:gX X kx esc a u s (λe s'=>match e with
     |.normal=>match j.pZ s s' with
      |some x=>gX X kx esc b v (j.load s x) k|none=>Y
     |e=>k e s')=O out:=h
    refine vP λK b0=>N u s _ q _ o.1 t h i λe s' d r p g=>?_;cases e with
    |normal=>
     simp only at g;split at g
     .rename_i x w;obtain⟨z,g1,g2,C⟩:=wI (w0:=w0) (I0:=I0) (n:=n) L J D i p r w;exact b0 d (g1.nC (R v _ k z Q o.2 (t.trans C) g g2 λe s2 z f1 f2 y=>f e s2 z f1 (C.trans f2) y))
     .cases g
    |exit id=>exact f (.exit id) s' d r p g|ret=>exact f .ret s' d r p g
  .rename_i u v;exact g0 u v h
  .exact g0 .leaf .leaf h
 |block id a G=>
  intro hint s k q Q o t h i f;unfold gX at h;refine PJ (G _ s _ q _ o t h i λe s' d r p g=>?_);cases e with
  |normal=>exact f .normal s' d r p g|exit h0=>
   simp only at g;simp only[ae,e7.vQ];by_cases c0:h0=id
   .subst c0;rw[uh]at g;rw[aq rfl];exact f .normal s' d r p g
   .rw[x7 c0]at g;rw[ao c0];exact f (.exit h0) s' d r p g
  |ret=>exact f .ret s' d r p g
 |loop a G=>
  intro hint s k q Q o t h i f;unfold gX at h;split at h
  .rename_i j u _;cases D:j.tQ X with
   |false=>grind|true=>
    rw[D]at h;simp only[fQ,aX]at h;split at h
    .rename_i l0 m0;obtain⟨z,g1,g2,C⟩:=wI (w0:=w0) (I0:=I0) (n:=n) L J D i (.refl s) i m0;refine Jc (λm d=>∃x,aQ (λrec x=>gX X kx esc a u (j.load s x) λe s'=>match e with
      |.normal=>match j.pZ s s' with
       |some x=>rec x|none=>Y
      |e=>k e s') m x=O out/\∃z,jc P E w0 I0 n d z/\aU P E T X (j.load s x) z/\bw s (j.load s x)) X.N ⟨l0,h,z,g1,g2,C⟩ λm d ⟨x,w,n0,f1,f2,y⟩=>?_
     cases m with
     |zero=>cases w
     |succ m=>
      simp only[aQ]at w;refine f1.nC (G u _ _ n0 _ o (t.trans y) w f2 λe s' I e1 B e3=>?_);cases e with
      |normal=>
       simp only at e3;split at e3
       .rename_i o0 p0;exact⟨m,xy m,o0,e3,wI (w0:=w0) (I0:=I0) (n:=n) L J D i (y.trans B) e1 p0⟩
       .cases e3
      |exit id=>exact f (.exit id) s' I e1 (y.trans B) e3|ret=>exact f .ret s' I e1 (y.trans B) e3
    .cases h
  .rename_i u _;refine Jc (λm d=>∃s',aQ (λrec s=>gX X kx esc a u s λe s'=>match e with
    |.normal=>rec s'|e=>k e s') m s'=O out/\aU P E T X s' d/\bw s s') 64 ⟨s,h,i,.refl s⟩ λm d ⟨s',w,f2,y⟩=>?_
   cases m with
   |zero=>cases w
   |succ m=>
    simp only[aQ]at w;refine G u _ _ d _ o (t.trans y) w f2 λe s2 I e1 B e3=>?_;cases e with
    |normal=>exact ⟨m,xy m,s2,e3,e1,y.trans B⟩|exit id=>exact f (.exit id) s2 I e1 (y.trans B) e3
    |ret=>exact f .ret s2 I e1 (y.trans B) e3
  .cases h
 |scope a G=>
  intro hint s k q Q o t h i f;unfold gX at h;refine PK (G _ s _ q _ o t h i λe s' d r p g=>?_);cases e with
  |normal=>exact f .normal s' d r p g|exit id=>exact f (.exit id) s' d r p g
  |ret=>exact f .ret s' d r p g
 |_=>intro hint s k q Q o t h i f;unfold gX at h;cases h
end
section
variable{P:ai}{E:cd}{U:cp}{T:dt U.C}{X:gy U}{w0:af}{I0:aA}{n:Nat}{α:Type}{out:α}{s:S U.C}{q:St}
variable(L:cD U T)
def wJ{x:AV}(h:bz u=O x):tJ P q ob u (.v x):=by
 cases u<;>simp[bz]at h
 .subst h;rfl
 .subst h;rfl
def mH(n:Nat):Z ResultVar->aa
 |[]=>W|.tmp t::l=>decide (t<n)&&mH n l
 |.cell c _::l=>decide (c<n)&&mH n l
include L in
theorem JV(H:bJ P E T X)(f:kv P E T X e t){a k:Nat}{u:Ty}{cs:Z (R U.C)}{v:bL U.C t}(y:s.bG a=.dT d k)(n:s.box d=O (.cells u cs))(hv:(Jo U t k cs).bind (ga t)=O v)(h:aU P E T X s q):
  vR P q e (q.r a) (λx=>tJ P q ob x (.v (enc T t v))):=by
 have o:=h.ct a;rw[y]at o;have z:=jN h o n;obtain⟨_,_,rs,A,i⟩:=h.cells n;obtain⟨r,b,hv⟩:=bind_some hv;rw[z];unfold vR;simp only[A,lK,dN,mW];unfold jW;unfold Jo at b;have I:=(i.drop k).1;cases g:a7 t with
 |true=>
  rw[g]at b;simp only[aW]at b;split at b
  .rename_i x rest p;simp only[aN]at b;subst b;have B:v=x:=by grind [ga,Mj,aN]
   subst B;rw[k9]at p;obtain⟨_,j,m⟩:=iG L D t _ _ _ _ (iF L t) f.ok (i.drop k) p;refine⟨f.pos,by rw[f.cells];omega,?_⟩;rw[f.agg,g];simp only;refine⟨_,by rw[f.cells];exact m,?_⟩;rw[lS v g];exact wJ rfl
  .cases b
 |false=>
  rw[g]at b;simp only[aX,k9]at b;have C:bB U D t=1:=by cases t<;>first|rfl|(simp[a7]at g)
  cases w:cs.drop k with
  |nil=>grind|cons J l=>rw[w]at b;simp only[NI,aN]at b;subst b;have j:=i.drop k;rw[w]at j;obtain⟨c,ps,m,G,K⟩:=j.Hu;rw[m];refine⟨f.pos,by rw[f.cells,C];simp,?_⟩;rw[f.agg,g];simp only[List.headD_cons];exact wJ (dm G hv f.ok)
include L in
theorem pe(f:bJ P E T X):∀(l:Z ResultVar)(rs:Z RK){K:S U.C->HL U.C (rs.map RK.ty)->V α},dj X F l rs s K=O out->mH n l=W->∃y,K s y=O out/\∀q,aU P E T X s q->(∀ob,iJ P n q ob l (db T rs y))/\(db T rs y).filter gl=[]
 |[],[],K,h,a=>⟨(),h,λq b=>⟨λob=>trivial,rfl⟩⟩|[],_::_,K,h,a=>by simp[dj]at h
 |.tmp t::l,[],K,h,a=>by simp[dj]at h|.cell c t::l,[],K,h,a=>by simp[dj]at h
 |.tmp t::l,.v ty::rs,K,h,a=>by
  simp only[mH,aP,aV]at a;simp only[dj]at h;obtain⟨o,h⟩:=az h;simp only[aX]at h;split at h
  .rename_i v hv;obtain⟨y,h,g⟩:=pe f l rs h a.2;refine⟨_,h,λq b=>?_⟩;obtain⟨i,j⟩:=g q b;simp only[db,gd,ht];exact⟨λob=>⟨a.1,wJ (dm (b.ct t) hv o),i ob⟩,by simpa[gl]using j⟩
  .cases h
 |.tmp t::l,.bR ty e::rs,K,h,a=>by
  simp only[dj]at h
  grind
 |.cell c p::l,.bR ty e::rs,K,h,a=>by simp[dj]at h|.cell c p::l,.v ty::rs,K,h,a=>by
  simp only[mH,aP,aV]at a;simp only[dj]at h;obtain⟨m,h⟩:=az h;have m:=e4 m;split at h
  .rename_i d k r;split at h
   .rename_i u cs w;split at h
    .rename_i v hv;obtain⟨y,h,g⟩:=pe f l rs h a.2;refine⟨_,h,λq b=>?_⟩;obtain⟨i,j⟩:=g q b;simp only[db,gd,ht];exact⟨λob=>⟨a.1,JV L f (f.ty _ _ m) r w hv b,i ob⟩,by simpa[gl]using j⟩
    .cases h
   .cases h
  .cases h
include L in
theorem qO(i:bJ P E T X):∀(l:Z ResultVar)(rs:Z RK)(s:S U.C){K:S U.C->HL U.C (rs.map RK.ty)->V α},((∃k,s.m k=W)->E.cT=F)->dj X W l rs s K=O out->mH n l=W->∃s' y,K s' y=O out/\bw s s'/\∀q,aU P E T X s q->∃w ob,jc P E w0 I0 n q w/\aU P E T X s' w/\lG q w/\iJ P n w ob l (db T rs y)/\((db T rs y).filter gl).length<=1
 |[],[],s,K,g,h,b=>⟨s,(),h,.refl s,λq f=>⟨q,Y,.refl q,f,.refl q,trivial,by simp[db]⟩⟩|[],_::_,s,K,g,h,b=>by simp[dj]at h
 |.tmp t::l,[],s,K,g,h,b=>by simp[dj]at h|.cell c t::l,[],s,K,g,h,b=>by simp[dj]at h
 |.cell c J::l,.bR ty e::rs,s,K,g,h,b=>by simp[dj]at h|.tmp t::l,.v ty::rs,s,K,g,h,b=>by
  simp only[mH,aP,aV]at b;simp only[dj]at h;obtain⟨z,h⟩:=az h;simp only[aW]at h;have N:∃o,(o.val W (o.bG t) ty λs v=>dj X W l rs s λs vs=>K s (iE ty (rs.map RK.ty) v vs))=O out/\bw s o/\∀q,aU P E T X s q->∃p,jc P E w0 I0 n q p/\aU P E T X o p/\lG q p:=by
   unfold Oo at h;split at h
   .exact Ox L h
   .exact ⟨s,h,.refl s,λq f=>⟨q,.refl q,f,.refl q⟩⟩
  obtain⟨o,h,B,Q⟩:=N;obtain⟨R,v,h,G,l0,m0,a0⟩:=lb (w0:=w0) (I0:=I0) (n:=n) (x:=.tmp t) L i (by rw[B.m];exact g) rfl h;obtain⟨s2,y,h,b0,c0⟩:=qO i l rs R (by rw[G.m,B.m];exact g) h b.2;refine⟨s2,_,h,(B.trans G).trans b0,λq f=>?_⟩;obtain⟨p,d0,gS,e0⟩:=Q q f;obtain⟨q1,av,hv⟩:=a0 p gS;have f0:=gm hv.ED z;subst f0;obtain⟨g0,ob,g1,g2,g3,g4,n0⟩:=c0 q1 hv.oM;refine⟨g0,ob,(d0.trans hv.oP).trans g1,g2,(e0.trans hv.jO).trans g3,?_,?_⟩
  .simp only[db,gd,ht];exact⟨b.1,wJ (g3 _ _ hv.Ek),g4⟩
  grind [db,gd,ht,gl]
 |.tmp t::l,.bR ty e::rs,s,K,g,h,b=>by
  simp only[mH,aP,aV]at b;simp only[dj]at h;obtain⟨z,h⟩:=az h;simp only[lD]at z;have m:=e4 z;split at h
  .rename_i xs a;obtain⟨y,h,C⟩:=pe (n:=n) L i l rs h b.2;refine⟨s,_,h,.refl s,λq f=>?_⟩;obtain⟨g1,g2⟩:=C q f;have j:=f.ct t;have D:∃ob,tJ P q ob (q.r t) (.bR e (xs.map (enc T ty))):=by
    split at a
    .rename_i d r;rw[r]at j;split at a
     .rename_i h0 e' i0 A;replace a:=az a;obtain⟨H,a⟩:=a;obtain rfl:=e4 H;obtain⟨I,rfl⟩:=bM a;simp only[Ty.bk.injEq]at I;subst I;refine⟨O d,?_⟩;rw[fG f j A];obtain⟨_,j0⟩:=f.br A;exact⟨rfl,rfl,rfl,_,j0,by rw[de aH]⟩
     .cases a
    .rename_i v r;rw[r]at j;obtain⟨b,a⟩:=az a;simp only[aN]at a;subst a;unfold fE at b;split at b
     .refine ⟨Y,?_⟩;generalize q.r t=u at j;cases j;exact⟨rfl,rfl,(i.ty _ _ m).pos⟩
     .cases b
    .rename_i h0 i0 r;rw[r]at j;replace a:=az a;obtain⟨H,a⟩:=a;split at a
     .simp only[aN]at a;subst a;refine⟨Y,?_⟩;generalize q.r t=u at j;cases j;exact⟨rfl,rfl,(i.ty _ _ m).pos⟩
     .cases a
    .cases a
   obtain⟨ob,D⟩:=D;refine⟨q,ob,.refl q,f,.refl q,?_,?_⟩
   .simp only[db,gd,ht];exact⟨b.1,D,g1 ob⟩
   .have o0:db T (.bR ty e::rs) (iE (.bk ty) (rs.map RK.ty) xs y)=.bR e (List.map (enc T ty) xs)::db T rs y:=by simp only[db,gd,ht]
    grind
  .cases h
 |.cell c J::l,.v ty::rs,s,K,g,h,b=>by
  simp only[mH,aP,aV]at b;simp only[dj]at h;obtain⟨m,h⟩:=az h;have m:=e4 m;split at h
  .rename_i d k k0;split at h
   .rename_i u cs A;split at h
    .rename_i v hv;obtain⟨y,h,C⟩:=pe (n:=n) L i l rs h b.2;refine⟨s,_,h,.refl s,λq f=>?_⟩;obtain⟨g1,g2⟩:=C q f;refine⟨q,Y,.refl q,f,.refl q,?_,?_⟩
     .simp only[db,gd,ht];exact⟨b.1,JV L i (i.ty _ _ m) k0 A hv f,g1 Y⟩
     grind [db,gd,ht,List.filter,gl]
    .cases h
   .cases h
  .cases h
end
section
variable{P:ai}{E E':cd}{U:cp}{T:dt U.C}{X:gy U}
structure sb(P:Program)(E E':cd):Prop where
 d:tq P E=tq P E'
 h:ov P E=ov P E'
 it:E.it=E'.it
def pf:sb P E E.plain:=⟨rfl,rfl,rfl⟩
def pg(a:Nat->V Ob)(I0:aA):sb P E (E.bX a I0):=⟨rfl,rfl,rfl⟩
def sb.symm (h:sb P E E'):sb P E' E:=⟨h.d.symm,h.h.symm,h.it.symm⟩
def JW(h:sb P E E'){v:bL U.C t}(hv:j7 P E T t v av):j7 P E' T t v av:=by
 cases t with
 |fn a b=>obtain ⟨f,caps,c,d⟩:=hv;exact ⟨f,caps,c,by rw[<-h.d];exact d⟩|lP a b=>obtain ⟨f,caps,c,d⟩:=hv;exact ⟨f,caps,c,by rw[<-h.h];exact d⟩
 |iC a b=>obtain ⟨f,caps,c,d⟩:=hv;exact ⟨f,caps,c,by rw[<-h.h];exact d⟩|_=>exact hv
theorem CT(h:sb P E E'){bx:Z (Nat×Nat×B U.C)}{r:R U.C}(w:bA P E T bx g tick r u):bA P E' T bx g tick r u:=by
 induction w with
 |none q=>exact .none q|val t x q av y hv=>exact .val t x q av y (JW h hv)
 |const v z=>exact .const v z|bF t xs b=>exact .bF t xs b
 |dT d k q c=>exact .dT d k q c|whole d q c=>exact .whole d q c
 |gq d i k A t x q hv c=>exact .gq d i k A t x q hv c|dF t x k b=>exact .dF t x k b
 |gw rs qs p o a=>exact .gw rs qs p a|fn f caps e p o a=>exact .fn f caps e p a
 |mR C t x b=>exact .mR C t x b|jy k i off=>exact .jy k i off
 |kq k i j off=>exact .kq k i j off|sub d off m q c=>exact .sub d off m q c
 |sN rs e l o s a=>exact .sN rs e l a s|nF r av h a=>exact .nF r av a
 |hk t b=>exact .hk t b|agg n rs e l o s a=>exact .agg n rs e l a s
 |mc f rs e l o a=>exact .mc f rs e l a|it k=>rw[h.it];exact .it k
def kJ(h:sb P E E'):∀{ps:Z Ty}{x:HL U.C ps}{b:Z AV},gf P E T ps x b->gf P E' T ps x b
 |[],x,b,c=>c|t::ts,x,b,⟨a,r,d,e,f⟩=>⟨a,r,d,JW h e,kJ h f⟩
theorem S6(h:sb P E E')(a:kv P E T X e t):kv P E' T X e t:=by
 obtain⟨b,c,d,f,g,i,j,k,l,m,n,o,p,q,r,s,u,v,y,w,x⟩:=a;refine⟨b,c,d,f,g,i,j,k,l,m,n,o,p,q,r,s,u,v,?_,w,x⟩
 grind [CT]
def Qh(h:sb P E E'){c:bZ U}(k:eb P E T X f c):eb P E' T X f c:=by
 obtain⟨l,m,g⟩:=k;refine⟨l,m,?_⟩;obtain⟨ps,rs,ea,e⟩:=c;cases e with
 |pure e=>exact λx a r b d=>by rw[<-h.d];exact g x a r (kJ h.symm b) d|rd e=>exact λx i a r A Vloc b j d=>by rw[<-h.h];exact g x i a r A Vloc (kJ h.symm b) j d
 |st e=>exact λx i a r n A Vloc b j d=>by rw[<-h.h];exact g x i a r n A Vloc (kJ h.symm b) j d
def sW(h:sb P E E')(b:∀i,E'.ro i=Y)(a:bJ P E T X):bJ P E' T X:=⟨λ_=>b,λk i _ _=>b _,λe t d=>S6 h (a.ty e t d),λf c g=>Qh h (a.lB f c g),a.h7,a.map,a.Mb,a.Mc,a.k6,a.ry,λf n fs j=>by rw[<-h.d];exact a.Zf f n fs j⟩
end
section
variable{P:ai}{E:cd}{U:cp}{T:dt U.C}{X:gy U}{w0:af}{I0:aA}{n:Nat}
variable(L:cD U T)
def JX{q:St}(h:nC P E w0 I0 n c (λe q=>∃b,jc P E w0 I0 n q b/\Q e b) (λx q=>∃b,(∀a w I be,aJ P E w0 I0 n q a w I be->aJ P E w0 I0 n b a w I be)/\Zloc x b) q):nC P E w0 I0 n c Q Zloc q:=by
 intro a w j;refine pB (h a w j) λe a' w' i=>?_;cases e with
 |normal=>obtain ⟨s,d,b,f,g⟩:=i;exact ⟨b,f _ _ d,g⟩|exit id=>obtain ⟨s,d,b,f,g⟩:=i;exact ⟨b,f _ _ d,g⟩
 |goto l=>obtain ⟨s,d,b,f,g⟩:=i;exact ⟨b,f _ _ d,g⟩|ret=>obtain ⟨s,d,b,f,g⟩:=i;exact ⟨b,f _ _ d,g⟩
 |panic o=>obtain⟨x,v,s,I,be,d,⟨b,f,g⟩,k,m⟩:=i;exact⟨x,v,b,I,be,d,g,f _ _ _ _ k,m⟩|outgrown=>exact i
theorem oC(p:∀i,E.ro i=Y){q:St}{a:Act}{w:af}{I:aA}{be:Nat->V Nat}{A:Nat->V Ob}{Vloc:Nat->aa}(g:∀i,A i=Y∨A i=np (q.a i))(k:∀i,Vloc i=F->q.u i=F)(h:aJ P E w0 I0 n q a w I be):aJ P E w0 I0 n {q with a:=A,u:=Vloc} a w I be:=by
 have c:∀i,A i≠Y->A i=np (q.a i):=λi hi=>(g i).resolve_left hi;have r:∀i,A i≠Y->q.a i≠Y:=λi hi e=>by have:=c i hi;rw[e]at this;exact hi this
 refine⟨h.since,h.size,h.defers,h.ct,h.bD,h.inj,h.bR,h.ru,⟨λi x b=>?_,λi j B d f l m=>h.aZ.inj i j B ?_ ?_ l m,λi B hi o=>h.aZ.bR i B ?_ o,λi hi=>h.aZ.un i (k i hi),λi x h=>(by grind)⟩⟩
 .have b:A i=O x:=b;have:=c i (by grind);rw[b]at this;obtain⟨z,hz,rfl⟩:=LD this.symm;obtain⟨B,d,f⟩:=h.aZ.h7 i z hz;exact⟨B,d,f.bare⟩
 grind
 grind
 grind
theorem hW{q:St}{A:Nat->V Ob}{Vloc:Nat->aa}{ob:V Nat}:∀{l:Z ResultVar}{rs:Z RV},iJ P n q ob l rs->iJ P n {q with a:=A,u:=Vloc} ob l rs
 |[],[],h=>h|[],_::_,h=>h
 |.tmp t::l,[],h=>h|.cell c t::l,[],h=>h
 |.tmp t::l,r::rs,⟨e,b,f⟩=>⟨e,by show tJ P _ ob (q.r t) r;generalize q.r t=u at b;cases u<;>cases r<;>exact b,hW f⟩
 |.cell c t::l,r::rs,⟨e,b,f⟩=>⟨e,by
   have j:∀x,tJ P q ob x r->tJ P {q with a:=A,u:=Vloc} ob x r:=λx g=>by cases x<;>cases r<;>exact g
   unfold vR at b⊢;show match q.r c with
    |.dT d gg sz i k=>match q.b d with
     |some (.cells cs)=>gg=q.g d/\jW P t (cs.drop (i*sz+k)) _|_=>False
    |_=>False
   grind [jW],hW f⟩
def CU{bx:Z (Nat×Nat×B U.C)}{ty:Ty}{v:bL U.C ty}{a:AV}(h:j7 P E T ty v a):bA P E T bx g tick (abq ty v) (.val a):=by
 cases ty with
 |cell t=>obtain⟨b,rfl⟩:=h;have:=bA.dF (P:=P) (E:=E) (T:=T) (bx:=bx) (g:=g) (tick:=tick) t v 0 b;rw[tD]at this;exact this|iC p r=>
  obtain⟨f,caps,rfl,c⟩:=h;exact .nF _ _ (.val (.lP p r) v _ (.fn f caps) rfl ⟨f,caps,rfl,c⟩)
 |_=>exact .val _ v _ a rfl h
theorem sc{bx:Z (Nat×Nat×B U.C)}{g:Nat->Nat}{tick:Nat}:∀(ps:Z Ty)(i:Nat)(x:HL U.C ps)(b:Z AV),gf P E T ps x b->b.length=ps.length/\(∀t st r,aF (kF ps i x) t=O (st,r)->st=0)/\∀t,bA P E T bx g tick (match aF (kF ps i x) t with|some e=>e.2|none=>.none) (if i<=t then((b.map cH.val)[t-i]?).getD .none else .none)
 |[],i,x,b,h=>by have:b=[]:=h;subst this;exact⟨rfl,λt st r h=>by simp[kF,aF]at h,λt=>.none _⟩|ty::ps,i,x,b,⟨a,r,c,d,f⟩=>by
  subst c;obtain⟨j,g2,k⟩:=sc (bx:=bx) (g:=g) (tick:=tick) ps (i+1) (xK ty ps x) r f;refine⟨by simp[j],λt st l h=>?_,λt=>?_⟩
  grind [kF,aT,aN,cz]
  .simp only[kF,aT];by_cases e:i=t
   .subst e;simp only[cm,bq,Bb,gb,ic,gh];exact CU d
   grind
include L in
theorem V7{rs:Z RK}{C:HL U.C ps->V (jm U ea (HL U.C (rs.map RK.ty)))}(b0:bJ P E T X)(c0:P.funcs[f]?=O fn)(d0:(fn.name== "runtime.NumGoroutine")=F)(e0:fn.body=O c)(u0:ps.length<=fn.ntmps)
  (f0:eJ fn.ntmps c=W) (g0:mH fn.ntmps fn.results.toList=W) (h0:U.C 0) (i0:∀(w0:af)(I0:aA)(sB:S U.C)(r:jm U ea (HL U.C (rs.map RK.ty))),HM P E.plain T X w0 I0 fn.ntmps esc sB r)
  (j0:∀x,Fo X ps rs ea esc fn.results.toList c hint x h0=C x):nu P E T f ps rs ea (.pure C):=by
 intro x D r k0 A;rw[<-j0 x]at A;have G:bJ P E.plain T X:=sW pf (λ_=>rfl) b0;have l0:=sc (bx:=[]) (g:=λ_=>0) (tick:=1) ps 0 x D (kJ pf k0);refine Jf c0 d0 e0 (by grind) λw0 I0=>JX ?_;unfold Fo at A;have m0:aU P E.plain T X ({r:=kF ps 0 x,b:=[],tick:=1,h:=h0,m:=λ_=>F}:S U.C) (entry D):=by
  refine⟨λt=>?_,λd=>trivial,λt st y H=>?_,(λd st y H=>by cases H),(λk _ n0=>by cases n0),rfl⟩
  .have:=l0.2.2 t;rw[S.ib];rw[aq (eM _),qn]at this;simp only;cases J:aF (kF ps 0 x) t with
   |none=>rw[J]at this;exact this|some e=>rw[J]at this;exact this
  grind
 refine kk L G (λ⟨k,o⟩=>by cases o) (i0 w0 I0 _ r) (λav q o0=>?_) c hint _ _ _ _ f0 (.refl _) A m0 λe s' q p0 q0 j=>?_
 .obtain ⟨p,s',g1,g2,g3,g4,rfl⟩:=o0;refine⟨{q with a:=tp,u:=mi},λa w I be l=>oC (λ_=>rfl) (λi=>.inl rfl) (λi hi=>by cases hi) l,?_⟩;have g3:Ap ea p=O r:=g3;unfold Ap at g3;cases ea with
  |none=>cases g3
  |some B=>
   obtain⟨x0,t⟩:=B;simp only at g3;obtain⟨v,g3⟩:=az g3;have v:=cC v;split at g3
   .rename_i e K;obtain⟨N,rfl⟩:=bM K;obtain⟨y0,B,A0⟩:=p;simp only at v N K;subst v N;obtain rfl:=cJ g3;exact⟨rfl,g1.df,rfl,rfl⟩
   .cases g3
 .have Q:dj X W fn.results.toList rs s' (λs y=>O (xU ea y))=O r->∀e',(e'=e7.normal∨e'=e7.ret)->∃z,jc P E.plain w0 I0 fn.ntmps q z/\abf P fn (qa T rs ea r) e' z:=by
   intro j e' r0;obtain⟨s2,y,R,B0,s0⟩:=qO (w0:=w0) (I0:=I0) (n:=fn.ntmps) L G _ rs s' (λ⟨k,o⟩=>by rw[q0.m]at o;cases o) j g0;obtain⟨z,ob,m1,m2,m3,m4,a0⟩:=s0 q p0;simp only[aN]at R;have t0:qa T rs ea r=.ret (db T rs y):=by
    subst R;cases ea with
    |none=>rfl|some B=>rfl
   refine⟨{z with a:=tp,u:=mi},λa w l=>?_,?_⟩
   .obtain ⟨I,be,l⟩:=m1 a w l;exact⟨I,be,oC (λ_=>rfl) (λi=>.inl rfl) (λi hi=>by cases hi) l⟩
   .rw[t0];rcases r0 with rfl|rfl
    .exact ⟨a0,⟨m2.df,rfl,rfl⟩,ob,hW m4⟩
    .exact ⟨a0,⟨m2.df,rfl,rfl⟩,ob,hW m4⟩
  cases e with
  |normal=>exact Q j _ (.inl rfl)|exit id=>cases j
  |ret=>exact Q j _ (.inr rfl)
def aK(T:dt U.C)(h:U.C 0)(k j:Nat):V Ob:=if k<U.nk then match(U.get k h)[j]? with
 |some x=>Cp T (U.ak k) x|none=>Y
 else Y
def uK(U:cp)(h:U.C 0)(k j:Nat):aa:=if k<U.nk then((U.get k h)[j]?).isSome else W
def Rk(T:dt U.C)(h:U.C 0)(i:Nat):V Ob:=aK T h (i%1000) (i/1000)
def S7(U:cp)(h:U.C 0)(i:Nat):aa:=uK U h (i%1000) (i/1000)
include L in
theorem OJ(h:U.C 0)(m:Nat->aa):fB T m h (Rk T h) (S7 U h):=λk a _ i=>by
 have b:dY k i%1000=k:=by have:=L.nk;unfold dY;omega
 have c:dY k i/1000=i:=by have:=L.nk;unfold dY;omega
 have d:Rk T h (dY k i)=aK T h k i:=by unfold Rk;rw[b,c]
 have e:S7 U h (dY k i)=uK U h k i:=by unfold S7;rw[b,c]
 rw[d,e];unfold aK uK;rw[aq a,aq a];cases(U.get k h)[i]? with
 |none=>grind|some x=>exact uF T _ x
theorem HN{h:U.C 0}{q:St}(b:fB T bF h q.a q.u):(∀i,Rk T h i=Y∨Rk T h i=np (q.a i))/\∀i,S7 U h i=F->q.u i=F:=by
 have hi:∀i,i=dY (i%1000) (i/1000):=VW;refine⟨λi=>?_,λi c=>?_⟩
 .unfold Rk aK;by_cases a:i%1000<U.nk
  .rw[aq a];have:=b _ a rfl (i/1000)
   grind
  grind
 .unfold S7 uK at c;by_cases a:i%1000<U.nk
  .rw[aq a]at c;have:=b _ a rfl (i/1000)
   grind
  grind
abbrev S8(U:cp)(β:Type):=(o8 U->S U.C->V β)->S U.C->(Ex->S U.C->V β)->V β
noncomputable def JY (ps:Z Ty) (rs:Z RK) (p:V (an×Ty)) (X:gy U) (a:Z ResultVar) (ex:S8 U (jm U p (HL U.C (rs.map RK.ty))×U.C 0)) (x:HL U.C ps) (h:U.C 0):V (jm U p (HL U.C (rs.map RK.ty))×U.C 0):=
 ex (λq s=>Jy s.h (Ap p q)) {r:=kF ps 0 x,b:=[],tick:=1,h:=h} λe s=>match e with
  |.exit _=>Y|_=>dj X W a rs s λs y=>O (xU p y,s.h)
include L in
theorem CV{rs:Z RK}{ex:S8 U (jm U ea (HL U.C (rs.map RK.ty))×U.C 0)}{K:HL U.C ps->U.C 0->V (jm U ea (HL U.C (rs.map RK.ty))×U.C 0)}(g0:bJ P E T X)(h0:P.funcs[f]?=O fn)(i0:(fn.name== "runtime.NumGoroutine")=F)(j0:fn.body=O c)(C0:ps.length<=fn.ntmps)
  (k0:mH fn.ntmps fn.results.toList=W) (l0:∀(A:Nat->V Ob)(v:aA)(w0:af)(I0:aA)(sB:S U.C)(r:jm U ea (HL U.C (rs.map RK.ty))×U.C 0)(kx:o8 U->S U.C->V (jm U ea (HL U.C (rs.map RK.ty))×U.C 0))(Zloc:AV->St->Prop),bJ P (E.bX A v) T X->(∀av i,XE P (E.bX A v) T X sB kx r av i->Zloc av i)->∀(s:S U.C)(k:Ex->S U.C->V (jm U ea (HL U.C (rs.map RK.ty))×U.C 0))(q:St)(Q:e7->St->Prop),bw sB s->ex kx s k=O r->aU P (E.bX A v) T X s q->(∀e s' i,aU P (E.bX A v) T X s' i->bw s s'->k e s'=O r->Q (ae e) i)->nC P (E.bX A v) w0 I0 fn.ntmps c Q Zloc q)
  (m0:∀x h,JY ps rs ea X fn.results.toList ex x h=K x h):nu P E T f ps rs ea (.st K):=by
 intro x h N r j A Vloc n0 o0 D;rw[<-m0 x h]at D;have p0:=sc (bx:=[]) (g:=λ_=>0) (tick:=1) ps 0 x N n0;refine⟨Rk T j,S7 U j,OJ L j _,GN h0 i0 j0 (by grind) λw0 I0=>JX ?_⟩;have R:bJ P (E.bX A I0) T X:=sW (pg A I0) (λ_=>rfl) g0;unfold JY at D;have q0:aU P (E.bX A I0) T X ({r:=kF ps 0 x,b:=[],tick:=1,h:=h}:S U.C) (qy N A Vloc):=by
  refine⟨λt=>?_,λd=>trivial,λt st y a0=>?_,(λd st y a0=>by cases a0),o0,rfl⟩
  .have:=CT (pg (P:=P) (E:=E) A I0) (p0.2.2 t);rw[S.ib];rw[aq (eM _),qn]at this;simp only;cases b0:aF (kF ps 0 x) t with
   |none=>rw[b0]at this;exact this|some e=>rw[b0]at this;exact this
  grind
 refine l0 A I0 w0 I0 _ (r,j) _ _ R (λav i r0=>?_) _ _ _ _ (.refl _) D q0 λe s' i s0 t0 z=>?_
 .obtain ⟨p,s',g1,g2,g3,g4,rfl⟩:=r0;have g3:Jy s'.h (Ap ea p)=O (r,j):=g3;unfold Jy at g3;split at g3
  .rename_i D0 l;simp only[aN,cz]at g3;obtain⟨rfl,rfl⟩:=g3;have G:fB T bF s'.h i.a i.u:=by have:=g1.heap;rw[g2.m]at this;exact this
   obtain⟨m,H⟩:=HN G;refine⟨{i with a:=Rk T s'.h,u:=S7 U s'.h},λa w I be B=>oC (λ_=>rfl) m H B,?_⟩;unfold Ap at l;cases ea with
   |none=>cases l
   |some J=>
    obtain⟨E0,t⟩:=J;simp only at l;obtain⟨C,l⟩:=az l;have C:=cC C;split at l
    .rename_i e c0;obtain⟨d0,rfl⟩:=bM c0;obtain⟨G0,J,H0⟩:=p;simp only at C d0 c0;subst C d0;obtain rfl:=cJ l;exact⟨rfl,g1.df,rfl,rfl⟩
    .cases l
  .cases g3
 .have e0:dj X W fn.results.toList rs s' (λs y=>O (xU ea y,s.h))=O (r,j)->∀e',(e'=e7.normal∨e'=e7.ret)->∃o,jc P (E.bX A I0) w0 I0 fn.ntmps i o/\RJ P fn (qa T rs ea r) (Rk T j) (S7 U j) e' o:=by
   intro z e' u0;obtain⟨s2,y,m,H,x0⟩:=qO (w0:=w0) (I0:=I0) (n:=fn.ntmps) L R _ rs s' (λ_=>rfl) z k0;obtain⟨o,ob,m1,m2,m3,m4,f0⟩:=x0 i s0;simp only[aN,cz]at m;obtain⟨m,rfl⟩:=m;have G:fB T bF s2.h o.a o.u:=by have:=m2.heap;rw[H.m,t0.m]at this;exact this
   obtain⟨y0,A0⟩:=HN G;have B0:qa T rs ea r=.ret (db T rs y):=by
    subst m;cases ea with
    |none=>rfl|some J=>rfl
   refine⟨{o with a:=Rk T s2.h,u:=S7 U s2.h},λa w B=>?_,?_⟩
   .obtain ⟨I,be,B⟩:=m1 a w B;exact⟨I,be,oC (λ_=>rfl) y0 A0 B⟩
   .rw[B0];rcases u0 with rfl|rfl
    .exact ⟨f0,⟨m2.df,rfl,rfl⟩,ob,hW m4⟩
    .exact ⟨f0,⟨m2.df,rfl,rfl⟩,ob,hW m4⟩
  cases e with
  |normal=>exact e0 z _ (.inl rfl)|exit id=>cases z
  |ret=>exact e0 z _ (.inr rfl)
include L in
theorem abv{rs:Z RK}{b:HL U.C ps->U.C 0->V (jm U ea (HL U.C (rs.map RK.ty))×U.C 0)}(d:bJ P E T X)(e:P.funcs[f]?=O fn)(g:(fn.name== "runtime.NumGoroutine")=F)(i:fn.body=O c)(j:ps.length<=fn.ntmps)
  (l:eJ fn.ntmps c=W) (m:mH fn.ntmps fn.results.toList=W) (n:∀(A:Nat->V Ob)(a:aA)(w0:af)(I0:aA)(sB:S U.C)(r:jm U ea (HL U.C (rs.map RK.ty))×U.C 0),HM P (E.bX A a) T X w0 I0 fn.ntmps esc sB r)
  (o:∀x h,Jz X ps rs ea esc fn.results.toList c hint x h=b x h):nu P E T f ps rs ea (.st b):=
 CV L (ex:=λkx=>gX X kx esc c hint) d e g i j m (λA a w0 I0 sB r kx Zloc p t s k q Q u h v w=>kk L p (λ_=>rfl) (n A a w0 I0 sB r) t c hint s k q Q l u h v w) o
end
end Go.X
namespace Go.Ev
open Go
section
variable{P:ai}{E:cd}{w0:af}{I0:aA}{n:Nat}{ops:Array aC}{Q:e7->St->Prop}{Zloc:AV->St->Prop}
def still(ops:Array aC)(a:Array aa):Nat:=((List.range ops.size).filter λi=>a.getD i W==F).length
theorem FJ{α:Type}{p c:α->aa}:∀{l:Z α}{x:α},x∈l->p x=W->c x=F->(∀y,c y=W->p y=W)->(l.filter c).length<(l.filter p).length
 |a::l,x,d,e,f,g=>by
  have i:∀l:Z α,(l.filter c).length<=(l.filter p).length:=λl=>by
   induction l with
   |nil=>grind|cons b l h=>grind
  simp only[List.filter_cons];rcases fb.1 d with rfl|d
  grind
  .have h:=FJ d e f g
   grind
theorem FK{a:Array aa}{i:Nat}(hi:i∈Region.ready .any ops a):still ops (a.setIfInBounds i W)<still ops a:=by
 obtain⟨b,o,c,_⟩:=mem_ready.1 hi;have d:i<ops.size:=(rr.1 c).1;refine FJ (x:=i) (uf.2 d) (by rw[b];rfl) ?_ λy e=>?_;simp_all
 .by_cases f:i=y
  grind
  simp_all
def HO(d:ju n ops=W)(J:Array aa->St->Prop)
  (step:∀b s,J b s->∀i∈Region.ready .any ops b,∃o,ops[i]?=O o/\((kh ops o s=O W/\jS P E w0 I0 n o s (λs'=>J (b.setIfInBounds i W) s') Zloc)∨(kh ops o s=O F/\J (b.setIfInBounds i W) (s.put o.dst (.gw [])))))
  (e:∀b s,J b s->Region.ready .any ops b=[]->Q .normal s):∀(bj:Nat)(b:Array aa)(s:St)(a:Act)(w:af),still ops b<=bj->J b s->ko P E w0 I0 n s a w->wpAny P .any ops (xL P E w0 I0 n Q Zloc) bj b a w
 |0,b,s,a,w,p,h,c=>by
  have h0:Region.ready .any ops b=[]:=by apply List.eq_nil_iff_forall_not_mem.2;intro i hi;have:=FK hi;omega
  exact⟨h0,s,c,e b s h h0⟩
 |bj+1,b,s,a,w,p,h,c=>by
  refine⟨λh0=>⟨s,c,e b s h h0⟩,λi hi=>?_⟩;obtain⟨o,l,q⟩:=step b s h i hi;have m:=kQ l;have C:=FK hi;unfold wpOp;simp only[l];rcases q with⟨f,t⟩|⟨f,u⟩
  .rw[vU d m f c];simp only[cm];refine .inl (lL (λa' w' ⟨s',g,k⟩=>HO d J step e bj _ s' a' w' M k g) (t a w c _ λx v s' a' w' I' y g k z=>⟨x,v,s',I',y,rfl,g,k,z⟩))
  .rw[vU d m f c];simp only[jo,cA];obtain⟨I,be,A⟩:=c;exact HO d J step e bj _ _ _ w M u ⟨I,be,A.put o.dst (r:=.gw []) ⟨#[],rfl,rfl,λj r B=>by simp at B⟩⟩
theorem OK{id:Nat}{s:St}(d:P.follows .mixedOrders=W)(e:ju n ops=W)(J:Array aa->St->Prop)
  (step:∀b s,J b s->∀i∈Region.ready .any ops b,∃o,ops[i]?=O o/\((kh ops o s=O W/\jS P E w0 I0 n o s (λs'=>J (b.setIfInBounds i W) s') Zloc)∨(kh ops o s=O F/\J (b.setIfInBounds i W) (s.put o.dst (.gw [])))))
  (f:∀b s,J b s->Region.ready .any ops b=[]->Q .normal s) (h:J (Array.replicate ops.size F) s):nC P E w0 I0 n (.region id ops W) Q Zloc s:=by
 intro a w c;refine wp_region_any d ?_;have g:ko P E w0 I0 n s a {w with drawn:=w.drawn+1}:=by obtain⟨I,be,c⟩:=c;exact⟨I,be,c.grow rfl rfl rfl (bq _) (λ_ _=>rfl)⟩
 refine HO e J step f _ _ s a _ ?_ h g
 grind [still,Nat.le_trans,List.length_filter_le]
end
end Go.Ev
namespace Go.X
open Go Go.Ev
variable{j tick d t tick':Nat}{g:Nat->Nat}{o:aC}{u:cH}{C:Nat->Type}
section
variable{P:ai}{E:cd}{U:cp}{T:dt U.C}{X:gy U}{s s':S U.C}{q:St}
theorem hE{β:Type}(l:Z (Nat×Nat×β)):∀(ts:Z Nat)(t:Nat),aF (S.only.uC l ts) t=if t∈ts then aF l t else Y
 |[],t=>by simp[S.only.uC,aF]|b::ts,t=>by
  simp only[S.only.uC];cases h:aF l b with
  |none=>
   simp only;rw[hE l ts t]
   grind
  |some x=>
   obtain⟨a,x⟩:=x;simp only[aT];by_cases e:b=t
   grind
   .rw[ao e,hE l ts t]
    grind
theorem ey{C:Nat->Type}{tick:Nat}:∀{rs:Z (R C)},lQ tick rs=W↔∀r∈rs,eB tick r=W
 |[]=>by simp[lQ]|r::rs=>by simp[lQ,ey (rs:=rs)]
def bA.yl {bx:Z (Nat×Nat×B U.C)} {r:R U.C} (h:bA P E T bx g tick r u) (hv:eB tick' r=W):bA P E T bx g tick' r u:=by
 induction h with
 |gq d i k A t x _ z e=>exact .gq d i k A t x _ (by simpa[eB]using hv) e|gw rs qs c s b=>simp only[eB]at hv;exact .gw rs qs c λi r q a w=>b i r q a w (ey.1 hv r (bW a))
 |fn f caps l c s b=>simp only[eB]at hv;exact .fn f caps l c λi r av a o=>b i r av a o (ey.1 hv r (bW a))|none=>exact .none _|val t x _ av w z=>exact .val t x _ av w z
 |const v C=>exact .const v C|bF t xs p=>exact .bF t xs p
 |dT d k _ e=>exact .dT d k _ e|whole d _ e=>exact .whole d _ e
 |dF t x k p=>exact .dF t x k p|mR D t x p=>exact .mR D t x p
 |jy k i off=>exact .jy k i off|kq k i j off=>exact .kq k i j off
 |sub d off m q e=>exact .sub d off m q e|sN rs l c s y b=>simp only[eB]at hv;exact .sN rs l c (λi r av a o=>b i r av a o (ey.1 hv r (bW a))) y
 |nF r av h b=>simp only[eB]at hv;exact .nF r av (b hv)|hk t p=>exact .hk t p|it k=>exact .it k
 |mc f rs l c s b=>simp only[eB]at hv;exact .mc f rs l c (λi r av a o=>b i r av a o (ey.1 hv r (bW a)))|agg n rs l c s y b=>simp only[eB]at hv;exact .agg n rs l c (λi r av a o=>b i r av a o (ey.1 hv r (bW a))) y
theorem bA.eB {bx:Z (Nat×Nat×B U.C)} {r:R U.C} (h:bA P E T bx g tick r u):Go.X.eB tick r=W:=by
 induction h with
 |gq d i k p t x _ m q=>simpa[Go.X.eB]using m|gw rs qs j l a=>
  simp only[Go.X.eB];refine ey.2 λr b=>?_;obtain⟨i,hi⟩:=kR.1 b;have c:i<qs.length:=by grind
  exact a i r _ hi (cX c)
 |fn f caps e j l a=>
  simp only[Go.X.eB];refine ey.2 λr b=>?_;obtain⟨i,hi⟩:=kR.1 b;have c:i<e.length:=by grind
  exact a i r _ hi (cX c)
 |sN rs e j l o a=>
  simp only[Go.X.eB];refine ey.2 λr b=>?_;obtain⟨i,hi⟩:=kR.1 b;have c:i<e.length:=by grind
  exact a i r _ hi (cX c)
 |nF r av h a=>simpa[Go.X.eB]using a|it _=>rfl
 |mc f rs e j l a=>
  simp only[Go.X.eB];refine ey.2 λr b=>?_;obtain⟨i,hi⟩:=kR.1 b;have c:i<e.length:=by grind
  exact a i r _ hi (cX c)
 |agg n rs e j l o a=>
  simp only[Go.X.eB];refine ey.2 λr b=>?_;obtain⟨i,hi⟩:=kR.1 b;have c:i<e.length:=by grind
  exact a i r _ hi (cX c)
 |_=>rfl
theorem oz.Hm {bx:Z (Nat×Nat×B U.C)} {st:Nat} {x:B U.C} {u:V Bx} (h:oz P E T X bx g tick (O (st,x)) u):x.Hm tick=W:=by
 cases x with
 |br t e xs=>rfl|cells t rs=>
  obtain⟨_,_,cs,_,d,a⟩:=h;refine ey.2 λr b=>?_;obtain⟨i,hi⟩:=kR.1 b;have c:i<cs.length:=by grind
  exact(a i r _ hi (cX c)).eB
mutual
theorem hX{C:Nat->Type}{t b:Nat}(h:t<=b):∀{r:R C},eB t r=W->eB b r=W
 |.gq _ _ _ c _ _,a=>by grind [eB,Nat.blt_eq]|.gw rs,a=>by simp only[eB]at a⊢;exact jz h a
 |.fn _ rs,a=>by simp only[eB]at a⊢;exact jz h a|.none,_=>rfl
 |.val _ _,_=>rfl|.const _,_=>rfl
 |.bF _ _,_=>rfl|.dT _ _,_=>rfl
 |.whole _,_=>rfl|.dF _ _ _,_=>rfl
 |.mR _ _ _,_=>rfl|.jy _ _ _,_=>rfl
 |.kq _ _ _ _,_=>rfl|.sub _ _ _,_=>rfl
 |.sN rs,a=>by simp only[eB]at a⊢;exact jz h a|.nF r,a=>by simp only[eB]at a⊢;exact hX h a
 |.hk _,_=>rfl|.it _,_=>rfl
 |.mc _ rs,a=>by simp only[eB]at a⊢;exact jz h a|.agg _ rs,a=>by simp only[eB]at a⊢;exact jz h a
theorem jz{C:Nat->Type}{t b:Nat}(h:t<=b):∀{rs:Z (R C)},lQ t rs=W->lQ b rs=W
 |[],_=>rfl|r::rs,a=>by simp only[lQ,aP]at a⊢;exact⟨hX h a.1,jz h a.2⟩
end
def B.mI {a:Nat} (h:t<=a) {x:B C} (b:x.Hm t=W):x.Hm a=W:=by
 cases x with
 |br _ _ _=>rfl|cells u rs=>exact jz h b
theorem qP{β:Type}:∀(a:Z Nat)(l:Z (Nat×Nat×β))(t:Nat),aF (sP l a) t=if t∈a then Y else aF l t
 |[],l,t=>by simp[sP]|d::a,l,t=>by
  simp only[sP];rw[qP a,aR]
  grind
def zD(L:cD U T):∀(a:Z Nat)(h b:U.C 0)(k:Nat),k<U.nk->U.get k (uD U h b a)=if k∈a then U.get k b else U.get k h
 |[],h,b,k,_=>by simp[uD]|k'::a,h,b,k,d=>by
  simp only[uD];rw[zD L a _ _ _ d];by_cases e:k∈a
  .simp[e]
  .by_cases c:k=k'
   .subst c;simp[e,L.AE k _ _ d]
   .simp[e,c,L.sQ k' k h _ c]
def CW(L:cD U T)(a:Z Nat)(h b:U.C 0)(k:Nat):U.get k (uD U h b a)=if k∈a then U.get k b else U.get k h:=by
 by_cases c:k<U.nk
 .exact zD L a h b k c
 .split<;>exact L.Hs _ _ _ M
end
section
variable{β:Type}
def hF(D wr:Nat->aa)(v:Nat->β)(b0:β):Nat->β
 |0=>b0|j+1=>bif D j&&wr j then v j else hF D wr v b0 j
variable{D D' wr:Nat->aa}{v:Nat->β}{b0:β}
theorem hG:∀{N:Nat},(∀i,i<N->wr i=W->D i=D' i)->hF D wr v b0 N=hF D' wr v b0 N
 |0,_=>rfl|j+1,h=>by
  simp only[hF];rw[hG (N:=j) λi hi a=>h i M a]
  grind
theorem wK{j:Nat}:∀{N:Nat},j<=N->hF (λi=>decide (i<j)) wr v b0 N=hF (λ_=>W) wr v b0 j
 |0,h=>by have:j=0:=M;subst this;rfl|N+1,h=>by
  by_cases a:j=N+1
  grind [hG]
  .simp only[hF];have:decide (N<j)=F:=dx;rw[this];simp only[Bool.false_and,aX];exact wK M
theorem sX{j:Nat}(a:∀i,i≠j->D' i=D i)(b:D' j=W):∀{N:Nat},j<N->(wr j=W->∀i,j<i->i<N->D i=W->wr i=W->False)->hF D' wr v b0 N=if wr j=W then v j else hF D wr v b0 N
 |N+1,g,c=>by
  by_cases e:j=N
  .subst e;simp only[hF,b,lD]
   grind [hG]
  .have h:=sX a b (N:=N) M λd i f k=>c d i f M;simp only[hF,a N (eN e)]
   grind
theorem kK:∀{N:Nat},hF D wr v b0 N=b0∨∃i,i<N/\D i=W/\wr i=W/\hF D wr v b0 N=v i
 |0=>.inl rfl|N+1=>by
  simp only[hF];cases h:D N&&wr N with
  |true=>grind|false=>
   simp only[aX];rcases kK (N:=N)with h|⟨i,a,b⟩
   grind
   grind
end
structure uQ(C:Nat->Type)where
 dst:Option Nat
 ds:List Nat
 f:Fp
 s1:S C
 uR:List Nat
def uQ.val {C:Nat->Type} (c:uQ C) (t:Nat):R C:=if c.dst=O t then c.s1.bG t else .none
section
variable{U:cp}{T:dt U.C}
def S.S9 (s:S U.C) (c:uQ U.C):S U.C:=
 {r:=match c.dst with
   |some d=>(d,0,c.s1.bG d)::k7 0 c.uR s.r|none=>k7 0 c.uR s.r
  b:=bif c.f.w then c.s1.b++sP s.b c.f.bs else s.b,tick:=s.tick,h:=bif c.f.w then uD U s.h c.s1.h c.f.ks else s.h,hv:=0,m:=s.m}
def sig(rc:Nat->uQ U.C)(D:Nat->aa)(s0:S U.C):Nat->S U.C
 |0=>s0|j+1=>bif D j then(sig rc D s0 j).S9 (rc j)else sig rc D s0 j
variable{rc:Nat->uQ U.C}{D:Nat->aa}{s0:S U.C}
def CX:∀N,(sig rc D s0 N).tick=s0.tick
 |0=>rfl|N+1=>by
  simp only[sig];cases D N with
  |true=>exact CX N|false=>exact CX N
def Ta:∀N,(sig rc D s0 N).m=s0.m
 |0=>rfl|N+1=>by
  simp only[sig];cases D N with
  |true=>exact Ta N|false=>exact Ta N
def uS(rc:Nat->uQ U.C)(t i:Nat):aa:=decide ((rc i).dst=O t)||ik t (rc i).uR
theorem fN{C:Nat->Type}(tick:Nat):∀(ts:Z Nat)(l:Z (Nat×Nat×R C))(t:Nat),aF (k7 tick ts l) t=if t∈ts then O (tick,.none)else aF l t
 |[],l,t=>by simp[k7]|a::ts,l,t=>by
  simp only[k7,aT];by_cases e:a=t
  grind
  .rw[ao e,fN tick ts l t]
   grind
def El(rc:Nat->uQ U.C)(d i:Nat):aa:=(rc i).f.w&&ik d (rc i).f.bs
def Lu(rc:Nat->uQ U.C)(k i:Nat):aa:=(rc i).f.w&&ik k (rc i).f.ks
theorem JZ(t:Nat):∀N,(sig rc D s0 N).bG t=hF D (uS rc t) (λi=>(rc i).val t) (s0.bG t) N
 |0=>rfl|N+1=>by
  simp only[sig,hF];rw[<-JZ t N];cases f:D N with
  |false=>simp|true=>
   simp only[aW,lD];cases a:(rc N).dst with
   |none=>
    by_cases c:t∈(rc N).uR
    grind [uS,ck,S.bG,S.S9,uQ.val,fN]
    .have b:ik t (rc N).uR=F:=by grind [ik,ck]
     have:uS rc t N=F:=by simp[uS,a,b]
     rw[this];simp only[aX]
     grind [S.bG,S.S9,fN]
   |some d=>
    by_cases e:d=t
    .subst e;have:uS rc d N=W:=by simp[uS,a]
     rw[this];unfold S.bG S.S9 uQ.val;simp only[a,aT,cm,aW]
    .by_cases c:t∈(rc N).uR
     grind [uS,ck,S.bG,S.S9,uQ.val,aT,fN]
     .have b:ik t (rc N).uR=F:=by grind [ik,ck]
      have:uS rc t N=F:=by simp[uS,a,e,b]
      rw[this];simp only[aX]
      grind [S.bG,S.S9,aT,fN]
theorem OL(d:Nat):∀N,(∀i,i<N->(rc i).f.w=W->aF (rc i).s1.b d≠Y->d∈(rc i).f.bs)->aF (sig rc D s0 N).b d=hF D (El rc d) (λi=>aF (rc i).s1.b d) (aF s0.b d) N
 |0,_=>rfl|N+1,h=>by
  simp only[sig,hF];rw[<-OL d N λi hi=>h i M];cases c:D N with
  |false=>simp|true=>
   simp only[aW,lD];cases b:(rc N).f.w with
   |false=>grind [El,S.S9]|true=>
    simp only[S.S9,b,aW,wu,qP];cases a:ik d (rc N).f.bs with
    |true=>
     have:El rc d N=W:=by simp[El,b,a]
     rw[this];simp only[aW];rw[aq (ck.1 a)]
     grind
    |false=>
     have:El rc d N=F:=by simp[El,a]
     rw[this];have f:d∉(rc N).f.bs:=λe=>by rw[ck.2 e]at a;cases a
     grind
theorem OM(L:cD U T)(k:Nat):∀N,U.get k (sig rc D s0 N).h=hF D (Lu rc k) (λi=>U.get k (rc i).s1.h) (U.get k s0.h) N
 |0=>rfl|N+1=>by
  simp only[sig,hF];rw[<-OM L k N];cases c:D N with
  |false=>simp|true=>
   simp only[aW,lD];cases b:(rc N).f.w with
   |false=>grind [Lu,S.S9]|true=>
    simp only[S.S9,b,aW];rw[CW L];cases a:ik k (rc N).f.ks with
    |true=>
     have:Lu rc k N=W:=by simp[Lu,b,a]
     rw[this,aq (ck.1 a)];rfl
    |false=>
     have:Lu rc k N=F:=by simp[Lu,a]
     have d:k∉(rc N).f.ks:=λe=>by rw[ck.2 e]at a;cases a
     grind
end
section
variable{P:ai}{E:cd}{U:cp}{T:dt U.C}{X:gy U}{w0:af}{I0:aA}{n:Nat}{α:Type}{out:α}{esc:Z (Nat×Nat)}{ops:Array aC}
structure wL(s s0:S U.C):Prop where
 bG:∀t,s0.bG t=s.bG t
 b:s0.b=s.b
 h:s0.h=s.h
 hv:s0.hv=s.hv
 m:s0.m=s.m
 tick:s.tick<=s0.tick
 later:bw s s0
 zo:(∀t st x,aF s.r t=O (st,x)->st<s.tick)->∀t st x,aF s0.r t=O (st,x)->st<s0.tick
def wL.refl (s:S U.C):wL s s:=⟨λ_=>rfl,rfl,rfl,rfl,rfl,bq _,.refl s,λh=>h⟩
theorem wL.put {s:S U.C} {x:R U.C} (h:s.bG t=x):wL s (s.put (O t) x):=by
 refine⟨λa=>?_,rfl,rfl,rfl,rfl,cO _,bi _ _,λb a st y c=>?_⟩
 .unfold S.bG S.put;simp only[aT];by_cases e:t=a
  .subst e;simp only[cm];rw[<-h];rfl
  .simp[e]
 grind [S.put,aT,aN,cz]
def tT(P:ai)(E:cd)(T:dt U.C)(ops:Array aC)(o:aC)(s:S U.C)(b:aa):Prop:=∀(bx:Z (Nat×Nat×B U.C))(g:Nat->Nat)(tick:Nat)(q:St),(∀t∈o.looksAt ops,bA P E T bx g tick (s.bG t) (q.r t))->kh ops o q=O b
inductive ZG(P:Program)(E:cd)(T:dt U.C)(X:gy U)(w0:World)(I0:aA)(n:Nat)(esc:List (Nat×Nat))(ops:Array Oper)(Zloc:AV->St->Prop)(pj:Option Nat)(j:Nat)(o:Oper)(s s':S U.C)(c:uQ U.C):Prop
 |run (s0:S U.C) (al:wL s s0) (hd:c.dst=o.dst) (hlo:c.uR=ji o) (hds:c.ds=eQ o) (hf:c.f=S.pY X esc ops j o s0) (hok:x4 X c.f o (s0.only (fW ops o) c.f.bs c.f.ks) c.s1=W) (hL:bw (s0.only (fW ops o) c.f.bs c.f.ks) c.s1)
   (hs:∀q,aU P E T X (s0.only (fW ops o) c.f.bs c.f.ks) q->dL P E w0 I0 n o q λq1=>aU P E T X c.s1 q1/\Fr X (s0.only (fW ops o) c.f.bs c.f.ks) o q q1) (hw:tT P E T ops o s W) (hs':s'=s0.tN c.s1 o.dst (ji o) c.f) (hpj:pj≠O j)
 |skip (s0:S U.C) (al:wL s s0) (hd:c.dst=o.dst) (hlo:c.uR=[]) (hds:c.ds=[]) (hf:c.f=⟨j,[],[],F⟩) (hc:c.s1=s0.put o.dst pX) (hw:tT P E T ops o s F) (hs':s'=s0.put o.dst pX) (hpj:pj≠O j)
 |ea (s0:S U.C) (al:wL s s0) (hd:c.dst=Y) (hlo:c.uR=[]) (hds:c.ds=[]) (hf:c.f={S.pY X esc ops j o s0 with w:=F}) (hc:c.s1=s0) (hs:∀q,aU P E T X (s0.only (fW ops o) c.f.bs c.f.ks) q->jS P E w0 I0 n o q (λ_=>False) Zloc) (hw:tT P E T ops o s W) (hs':s'=s0) (hpj:pj=O j)
 |rest (hd:c.dst=Y) (hlo:c.uR=[]) (hds:c.ds=[]) (hf:c.f=⟨j,[],[],F⟩) (hc:c.s1=s) (hs':s'=s) (hr:∃k,pj=O k/\((Region.before ops).getD j 0).testBit k=W) (hpj:pj≠O j)
def Pr(b:Nat)(c a:uQ U.C):Prop:=(b.testBit a.f.i=W∨((c.f.w||a.f.w)=W->(∀d,d∈c.f.bs->d∉a.f.bs)/\∀k,k∈c.f.ks->k∉a.f.ks))/\∀d∈c.ds,d∉a.f.bs
def AU(b:Nat)(c:uQ U.C)(g:Fp):Prop:=(b.testBit g.i=W∨((c.f.w||g.w)=W->(∀d,d∈c.f.bs->d∉g.bs)/\∀k,k∈c.f.ks->k∉g.ks))/\∀d∈c.ds,d∉g.bs
theorem ym:∀{l a:Z Nat},Cf l a=F↔∀d∈l,d∉a
 |[],a=>by simp[Cf]|d::l,a=>by
  simp only[Cf,tB,ym (l:=l),fb,forall_eq_or_imp];refine and_congr_left λ_=>⟨λh e=>(by rw[ck.2 e]at h;cases h),λh=>?_⟩
  grind [ik,ck]
theorem qQ{b:Nat}{f:Fp}:∀{fs:Z Fp},wo b f fs=W->∀g∈fs,b.testBit g.i=W∨((f.w||g.w)=W->(∀d,d∈f.bs->d∉g.bs)/\∀k,k∈f.ks->k∉g.ks)
 |[],_,g,a=>by cases a
 |g'::fs,h,g,a=>by
  simp only[wo,aP,lC,iB]at h;rcases fb.1 a with rfl|a
  .rcases h.1 with h|h
   grind
   .refine .inr λc=>?_;rw[c]at h;simp only[lD,tB]at h
    grind [ym]
  .exact qQ h.2 g a
def zE{b:Z Nat}:∀{fs:Z Fp},Cg b fs=W->∀g∈fs,∀d∈b,d∉g.bs
 |[],_,g,a=>by cases a
 |g'::fs,h,g,a=>by
  simp only[Cg,aP,iB]at h;rcases fb.1 a with rfl|a
  .exact ym.1 h.1
  .exact zE h.2 g a
def MF{s:S U.C}(h:o.guard=Y):tT P E T ops o s W:=λbx g tick q _=>by simp[kh,h]
theorem yn{s:S U.C}{a b:aa}(h:o.guard=O (j,a))(c:(ops[j]?).bind (·.dst)=O t)(d:∀bx g tick q,bA P E T bx g tick (s.bG t) (q.r t)->uw q t a=O b):tT P E T ops o s b:=λbx g tick q e=>by grind [kh,Oper.looksAt]
def zF{C:Nat->Type}{s:S C}{a:Z Nat}:∀{n:Nat},Ch s a n=W->∀k,k<n->s.m k=W->k∈a
 |n+1,h,k,c,b=>by
  simp only[Ch,aP,lC,iB]at h;by_cases e:k=n
  .subst e;rcases h.1 with h|h
   .rw[b]at h;cases h
   .exact ck.1 h
  .exact zF h.2 k M b
variable(L:cD U T)
include L in
theorem CY(t0:bJ P E T X){m0:Nat->aa}(u0:(∃k,m0 k=W)->E.cT=F)(x0:ju n ops=W){A:Array Nat}(y0:A=Region.before ops){kx:o8 U->S U.C->V α}{sB:S U.C}{Zloc:AV->St->Prop}(A0:∀av i0,XE P E T X sB kx out av i0->Zloc av i0)(B0:sB.m=m0):∀(l:Z aC)(r:V Nat)(i:Nat)(fs:Z Fp)(s:S U.C)(K:S U.C->V α),(∀j,l[j]?=ops[i+j]?)->s.m=m0->sB.tick<=s.tick->(∀k,r=O k->k<i)->r6 X esc kx ops A l r i fs s K=O out->
  ∃(m:V Nat)(st:Nat->S U.C)(rc:Nat->uQ U.C),(∀k,m=O k->r=O k∨(i<=k/\k<i+l.length))/\(r≠Y->m=r)/\st i=s/\(m=r->K (st (i+l.length))=O out)/\∀j,i<=j->j<i+l.length->(rc j).f.i=j/\(∃o,ops[j]?=O o/\ZG P E T X w0 I0 n esc ops Zloc m j o (st j) (st (j+1)) (rc j))/\(∀g∈fs,AU (A.getD j 0) (rc j) g)/\∀k,i<=k->k<j->Pr (A.getD j 0) (rc j) (rc k)
 |[],r,i,fs,s,K,C0,hm,a0,D0,h=>⟨r,λ_=>s,λ_=>⟨Y,[],⟨0,[],[],F⟩,s,[]⟩,λk z=>.inl z,λ_=>rfl,rfl,λ_=>h,λj I R=>by grind⟩|o::l,r,i,fs,s,K,C0,hm,a0,D0,h=>by
  have d1:ops[i]?=O o:=by simpa using(C0 0).symm
  have P0:∀j,l[j]?=ops[(i+1)+j]?:=λj=>by have:=C0 (j+1);grind
  have Q0:=rB.1 x0 o (kQ d1);simp only[aP]at Q0;have R0:∀(fs:Z Fp),∀g∈fs,∀(c:uQ U.C),c.f=⟨i,[],[],F⟩->c.ds=[]->AU (A.getD i 0) c g:=λfs g B c I R=>⟨.inr λ_=>by rw[I];exact ⟨λd b0=>(by cases b0),λk z=>(by cases z)⟩,λd b0=>(by rw[R]at b0;cases b0)⟩
  have j0:∀(G:V Nat)(k0:S U.C->V α)(s':S U.C)(c:uQ U.C)(f:Fp),c.f=f->f.i=i->(∀m:V Nat,(G≠Y->m=G)->(m=O i->G=O i)->ZG P E T X w0 I0 n esc ops Zloc m i o s s' c)->(∀g∈fs,AU (A.getD i 0) c g)->s'.m=m0->sB.tick<=s'.tick->(∀k,G=O k->k<i+1)->r6 X esc kx ops A l G (i+1) (f::fs) s' k0=O out->
    ∃(m:V Nat)(st:Nat->S U.C)(rc:Nat->uQ U.C),(∀k,m=O k->G=O k∨(i+1<=k/\k<i+(o::l).length))/\(G≠Y->m=G)/\st i=s/\(m=G->k0 (st (i+(o::l).length))=O out)/\∀j,i<=j->j<i+(o::l).length->(rc j).f.i=j/\(∃o,ops[j]?=O o/\ZG P E T X w0 I0 n esc ops Zloc m j o (st j) (st (j+1)) (rc j))/\(∀g∈fs,AU (A.getD j 0) (rc j) g)/\∀k,i<=k->k<j->Pr (A.getD j 0) (rc j) (rc k):=by
   intro G k0 s' c f e1 B1 f1 C1 i1 j1 l1 h;obtain⟨m,st,rc,h0,S0,I,R,l0⟩:=CY t0 u0 x0 y0 A0 B0 l G (i+1) (f::fs) s' k0 P0 i1 j1 l1 h;have b0:=f1 m S0 λe=>by
    rcases h0 i e with q|q
    .exact q
    .omega
   have e:i+(o::l).length=i+1+l.length:=by simp only[ie];omega
   refine⟨m,λj=>if j=i then s else st j,λj=>if j=i then c else rc j,λk z=>by have:=h0 k z;rw[e];exact this,S0,aH,λD1=>?_,λj E1 G1=>?_⟩
   .simp only[e]
    grind
   .by_cases e:j=i
    .subst e
     grind
    .simp only[ao e];obtain⟨g1,g2,g3,T0⟩:=l0 j M (by grind);rw[ao M];refine⟨g1,g2,λg B=>g3 g (IX _ B),λk H1 I1=>?_⟩;by_cases m1:k=i
     .subst m1;simp only[cm];have:=g3 f Rx;unfold Pr;rw[e1];exact this
     grind
  have pass:(∃(m:V Nat)(st:Nat->S U.C)(rc:Nat->uQ U.C),(∀k,m=O k->r=O k∨(i+1<=k/\k<i+(o::l).length))/\(r≠Y->m=r)/\st i=s/\(m=r->K (st (i+(o::l).length))=O out)/\∀j,i<=j->j<i+(o::l).length->(rc j).f.i=j/\(∃o,ops[j]?=O o/\ZG P E T X w0 I0 n esc ops Zloc m j o (st j) (st (j+1)) (rc j))/\(∀g∈fs,AU (A.getD j 0) (rc j) g)/\∀k,i<=k->k<j->Pr (A.getD j 0) (rc j) (rc k))->∃(m:V Nat)(st:Nat->S U.C)(rc:Nat->uQ U.C),(∀k,m=O k->r=O k∨(i<=k/\k<i+(o::l).length))/\(r≠Y->m=r)/\st i=s/\(m=r->K (st (i+(o::l).length))=O out)/\∀j,i<=j->j<i+(o::l).length->(rc j).f.i=j/\(∃o,ops[j]?=O o/\ZG P E T X w0 I0 n esc ops Zloc m j o (st j) (st (j+1)) (rc j))/\(∀g∈fs,AU (A.getD j 0) (rc j) g)/\∀k,i<=k->k<j->Pr (A.getD j 0) (rc j) (rc k):=λ⟨m,st,rc,a,b⟩=>⟨m,st,rc,λk z=>(a k z).imp id λq=>⟨M,q.2⟩,b⟩
  have E0:∀m:V Nat,(r≠Y->m=r)->(m=O i->r=O i)->m≠O i:=λm _ R l0=>by have:=D0 i (R l0);omega
  have G0:∀k,r=O k->k<i+1:=λk z=>xx (D0 k z);have g0:∀s0:S U.C,wL s s0->tT P E T ops o s W->(bif wo (A.getD i 0) (S.pY X esc ops i o s0) fs&&Cg (eQ o) fs then iA X (λp s1=>bif r.isNone&&Ch s0 (S.pY X esc ops i o s0).ks U.nk then r6 X esc kx ops A l (O i) (i+1) ({S.pY X esc ops i o s0 with w:=F}::fs) s0 (λ_=>kx p (s0.Mg s1))else Y) esc F o (s0.only (fW ops o) (S.pY X esc ops i o s0).bs (S.pY X esc ops i o s0).ks) λs1=>bif x4 X (S.pY X esc ops i o s0) o (s0.only (fW ops o) (S.pY X esc ops i o s0).bs (S.pY X esc ops i o s0).ks) s1 then(s0.tN s1 o.dst (ji o) (S.pY X esc ops i o s0)).Fj λs=>r6 X esc kx ops A l r (i+1) (S.pY X esc ops i o s0::fs) s K else Y else Y)=O out->_:=λs0 D C h=>by
   obtain⟨I,h⟩:=az h;simp only[aP]at I;have n1:(∃k,(s0.only (fW ops o) (S.pY X esc ops i o s0).bs (S.pY X esc ops i o s0).ks).m k=W)->E.cT=F:=λ⟨k,z⟩=>u0 ⟨k,by simp only[S.only,aP]at z;rw[<-hm,<-D.m];exact z.1⟩;cases HH (w0:=w0) (I0:=I0) L t0 n1 Q0.1 h with
   |one s1 c0 d0 H0=>obtain⟨R,c0⟩:=az c0;rw[S.Ce]at c0;have J1:=d0.m;exact pass (j0 r K _ ⟨o.dst,eQ o,S.pY X esc ops i o s0,s1,ji o⟩ _ rfl rfl (λm q1 f0=>.run s0 D rfl rfl rfl rfl R d0 (λq J0 a w K0 Q=>lL (λa' w' ⟨i0,g1,g2,g3⟩=>⟨i0,g1,g2,g3 rfl⟩) (H0 q J0 a w K0 Q)) C rfl (E0 m q1 f0)) (λg B=>⟨qQ I.1 g B,zE I.2 g B⟩) (by rw[<-hm,<-D.m];rfl) (ef a0 (ef D.tick (Nat.le_succ_of_le d0.tick))) G0 c0)|h8 o1=>cases o1
   |ea p s1 U0 d0 H0=>
    obtain⟨n0,c0⟩:=az U0;clear U0;simp only[aP]at n0;obtain⟨n0,L0⟩:=n0;have L0:=zF L0;have X0:r=Y:=by cases r<;>first|rfl|cases n0
    have r1:kx p (s0.Mg s1)=O out->∀q,aU P E T X (s0.only (fW ops o) (S.pY X esc ops i o s0).bs (S.pY X esc ops i o s0).ks) q->jS P E w0 I0 n o q (λ_=>False) Zloc:=λo0 q J0=>by
     obtain⟨t1,u1⟩:=H0 q J0;intro a w K0 v1 w1;refine u1 a w K0 v1 λx v s' a' w' I' x1 ⟨g1,g2⟩ g3 T0=>w1 x v s' a' w' I' x1 (A0 _ _ ⟨p,s0.Mg s1,?_,?_,o0,t1,g2⟩) g3 T0
     .refine ⟨λt=>.none _,λd=>trivial,(λt st y e0=>by cases e0),(λd st y e0=>by cases e0),λk z hm=>?_,g1.df⟩;have y1:s1.m k=W:=by rw[d0.m];have:k∈(S.pY X esc ops i o s0).ks:=L0 k z hm;simp only[S.only,aP];exact⟨hm,ck.2 this⟩
      exact g1.heap k z y1
     .refine ⟨?_,ef a0 (ef D.tick d0.tick),(λt st y e0=>by cases e0),(λd st y e0=>by cases e0),λA1=>?_⟩
      .show s0.m=sB.m;rw[D.m,hm,B0]
      .exfalso;have I:s1.tick<sB.tick:=A1;have R:s0.tick<=s1.tick:=d0.tick;have l0:=D.tick;omega
    by_cases o0:kx p (s0.Mg s1)=O out
    .obtain ⟨m,st,rc,b1,a2,a3,_,c1⟩:=j0 (O i) (λ_=>kx p (s0.Mg s1)) s0 ⟨Y,[],{S.pY X esc ops i o s0 with w:=F},s0,[]⟩ _ rfl rfl (λm q1 f0=>.ea s0 D rfl rfl rfl rfl rfl (r1 o0) C rfl (q1 aH)) (λg B=>⟨by
      rcases qQ I.1 g B with q|q
      .exact .inl q
      .exact .inr λC=>q (by simp only[vz]at C;simp[C]),λd b0=>(by cases b0)⟩) (by rw[<-hm,<-D.m]) (ef a0 D.tick) (λk z=>by cases z;omega) c0
     refine⟨m,st,rc,λk z=>?_,λq=>(q X0).elim,a3,λq=>?_,c1⟩
     .rcases b1 k z with q|q
      .cases q;exact .inr ⟨bq _,aH⟩
      .exact .inr ⟨M,q.2⟩
     .rw[a2 aH,X0]at q;cases q
    .obtain ⟨m,st,rc,b1,a2,a3,a4,c1⟩:=CY t0 u0 x0 y0 A0 B0 l (O i) (i+1) _ s0 (λ_=>kx p (s0.Mg s1)) P0 (by rw[<-hm,<-D.m]) (ef a0 D.tick) (λk z=>by cases z;omega) c0;exact(o0 (a4 (a2 aH))).elim
  have skip:∀s0:S U.C,wL s s0->tT P E T ops o s F->r6 X esc kx ops A l r (i+1) (⟨i,[],[],F⟩::fs) (s0.put o.dst pX) K=O out->_:=λs0 D C h=>by refine pass (j0 r K _ ⟨o.dst,[],⟨i,[],[],F⟩,s0.put o.dst pX,[]⟩ _ rfl rfl (λm q1 f0=>.skip s0 D rfl rfl rfl rfl rfl C rfl (E0 m q1 f0)) (λg B=>R0 fs g B _ rfl rfl) ?_ (ef a0 (ef D.tick (by cases o.dst<;>simp[S.put]))) G0 h);rw[<-hm,<-D.m];cases o.dst<;>rfl
  unfold r6 at h;cases q0:Jv A i r with
  |true=>
   rw[q0,aW]at h;refine pass (j0 r K s ⟨Y,[],⟨i,[],[],F⟩,s,[]⟩ _ rfl rfl (λm q1 f0=>.rest rfl rfl rfl rfl rfl rfl ?_ (E0 m q1 f0)) (λg B=>R0 fs g B _ rfl rfl) hm a0 G0 h);cases r with
   |none=>cases q0
   |some k=>exact ⟨k,q1 aH,by rw[<-y0];exact q0⟩
  |false=>
  rw[q0,aX]at h;simp only at h;cases B:o.guard with
  |none=>simp only[B]at h;exact g0 s (.refl s) (MF B) h|some p=>
   obtain⟨j,r0⟩:=p;simp only[B]at h;split at h
   .cases h
   .rename_i t N0;split at h
    .rename_i b J;have C:tT P E T ops o s (b==r0):=yn B N0 λbx g tick q H=>by
      rw[J]at H;have N:q.r t=.val (.fl (.bool b)):=by
       cases H with
       |val _ _ _ av N hv=>obtain ⟨_,rfl⟩:=hv;exact dk N
      simp[uw,N]
     cases b<;>cases r0<;>simp only[aW,aX]at h
     .exact g0 _ (.put J) C h
     .exact skip _ (.put J) C h
     .exact skip _ (.put J) C h
     .exact g0 _ (.put J) C h
    .rename_i b J;have C:tT P E T ops o s (b==r0):=yn B N0 λbx g tick q H=>by
      rw[J]at H;have N:q.r t=.val (.fl (.bool b)):=by
       generalize q.r t=u at H;cases H with
       |const _ L1=>rfl
      simp[uw,N]
     cases b<;>cases r0<;>simp only[Bool.xor_self,Bool.xor_true,Bool.xor_false,tA,fQ,aW,aX]at h
     .exact g0 _ (.refl s) C h
     .exact skip _ (.refl s) C h
     .exact skip _ (.refl s) C h
     .exact g0 _ (.refl s) C h
    .rename_i J;refine skip _ (.refl s) (yn B N0 λbx g tick q H=>?_) h;rw[J]at H;have N:∃qs,q.r t=.gw qs:=by
      generalize q.r t=u at H;cases H with
      |gw _ qs _ _=>exact ⟨qs,rfl⟩
     obtain⟨qs,N⟩:=N;simp[uw,N]
    .cases h
end
section
variable{C:Nat->Type}
theorem AG{d':Nat}:d∈[d']↔Nat.beq d' d=W:=⟨λh=>by simp_all,λh=>gD.2 (cC h).symm⟩
mutual
theorem wM{d:Nat}:∀{r:R C},d∈r.rj↔r.bb d=W
 |.dT d' _=>AG|.whole d'=>AG
 |.gq d' _ _ _ _ _=>AG|.gw rs=>by simp only[R.rj,R.bb];exact oD
 |.fn _ rs=>by simp only[R.rj,R.bb];exact oD|.none=>by simp[R.rj,R.bb]
 |.val _ _=>by simp[R.rj,R.bb]|.const _=>by simp[R.rj,R.bb]
 |.bF _ _=>by simp[R.rj,R.bb]|.dF _ _ _=>by simp[R.rj,R.bb]
 |.mR _ _ _=>by simp[R.rj,R.bb]|.jy _ _ _=>by simp[R.rj,R.bb]
 |.kq _ _ _ _=>by simp[R.rj,R.bb]|.sub d' _ _=>AG
 |.sN rs=>by simp only[R.rj,R.bb];exact oD|.nF r=>by simp only[R.rj,R.bb];exact wM
 |.hk _=>by simp[R.rj,R.bb]|.it _=>by simp[R.rj,R.bb]
 |.mc _ rs=>by simp only[R.rj,R.bb];exact oD|.agg _ rs=>by simp only[R.rj,R.bb];exact oD
theorem oD{d:Nat}:∀{rs:Z (R C)},d∈Ey rs↔cZ d rs=W
 |[]=>by simp[Ey,cZ]|r::rs=>by simp only[Ey,cZ,fK,lC];rw[wM,oD]
end
def B.wM {x:B C}:d∈x.rj↔x.bb d=W:=by
 cases x with
 |br _ _ _=>simp[B.rj,B.bb]|cells _ rs=>exact oD
theorem FL{s:S C}{bs:Z Nat}(h:Zq s bs (O d)=W):(∀e,(s.bG d).bb e=W->e∈bs)/\eB s.tick (s.bG d)=W:=by
 simp only[Zq,aP,R.Sl,di]at h;obtain⟨a,g,c⟩:=h;refine⟨λe j=>ck.1 (g e (Go.X.wM.2 j)),?_⟩;cases b:s.bG d with
 |gq d' i k l t x=>rw[b]at c;exact c|gw rs=>grind [Ol,di,eB,ey]
 |fn f rs=>grind [Ol,di,eB,ey]|sN _=>rw[b]at a;cases a
 |nF r=>rw[b]at a;cases r<;>first|rfl|cases a
 |mc _ _=>rw[b]at a;cases a
 |agg _ rs=>grind [Ol,di,eB,ey]|_=>rfl
theorem yo{f:Fp}{a:Z Nat}{bx:Z (Nat×Nat×B C)}{tick:Nat}:∀{l:Z (Nat×Nat×B C)},VR f a bx tick l=W->∀d st x,(d,st,x)∈l->d∈f.bs/\st<tick/\(∀e,x.bb e=W->e∈f.bs)/\x.Hm tick=W/\(d∈a∨aF bx d≠Y)
 |[],h,d,st,x,hm=>by cases hm
 |(d',n,o)::l,h,d,st,x,hm=>by
  simp only[VR,aP,lC,di,jq]at h;obtain⟨b,c,g,i,j,k⟩:=h;rcases fb.1 hm with e|hm
  .simp only[cz]at e;obtain⟨rfl,rfl,rfl⟩:=e;refine⟨ck.1 b,c,λe m=>ck.1 (g e (B.wM.2 m)),i,j.imp ck.1 λh e=>?_⟩;unfold VQ at h
   grind
  .exact yo k d st x hm
theorem zG{tick:Nat}{bx b:Z (Nat×Nat×B C)}:∀{l:Z Nat},Hn tick bx b l=W->∀d∈l,(∃st x,aF b d=O (st,x)/\st<tick)∨(aF b d=Y/\aF bx d=Y)
 |[],h,d,a=>by cases a
 |d'::l,h,d,a=>by
  simp only[Hn,aP]at h;rcases fb.1 a with rfl|a
  .have c:=h.1;cases f:aF b d with
   |none=>
    rw[f]at c;refine .inr ⟨rfl,?_⟩
    grind [VQ,aF]
   |some e=>obtain⟨st,x⟩:=e;simp_all
  .exact zG h.2 d a
end
section
variable{P:ai}{E:cd}{U:cp}{T:dt U.C}{X:gy U}
def oz.yl {bx:Z (Nat×Nat×B U.C)} {o:V (Nat×B U.C)} {u:V Bx} (h:oz P E T X bx g tick o u) (hv:∀st x,o=O (st,x)->x.Hm tick'=W):oz P E T X bx g tick' o u:=by
 cases o with
 |none=>trivial|some e=>
  obtain⟨st,x⟩:=e;cases x with
  |br t e xs=>exact h|cells t rs=>obtain⟨b,d,cs,f,j,k⟩:=h;exact⟨b,d,cs,f,j,λi r c a l=>(k i r c a l).yl (ey.1 (hv _ _ rfl) r (bW a))⟩
theorem Qi{s s' p g:S U.C}{f:Fp}{q q1:St}(h:aU P E T X s q)(z:aU P E T X g q1)(w:Fr X p o q q1)(I:bw p g)(p0:x4 X f o p g=W)
  (H0:∀k,p.m k=(s.m k&&ik k f.ks)) (q0:∀d,d∈f.bs->aF p.b d=aF s.b d) (r0:∀d,d∉f.bs->aF p.b d=Y) (s0:∀d∈eQ o,d∈f.bs)
  (I0:∀t,s'.bG t=if o.dst=O t then g.bG t else if t∈ji o then .none else s.bG t)
  (t0:∀d,aF s'.b d=if f.w=W/\d∈f.bs then aF g.b d else aF s.b d)
  (J0:∀k,U.get k s'.h=if f.w=W/\k∈f.ks then U.get k g.h else U.get k s.h)
  (K0:s'.m=s.m) (Q:s'.tick=s.tick) (u0:g.tick<=s.tick) (L0:∀t st x,aF s'.r t=O (st,x)->st<s'.tick)
  (N0:f.w=W->∀t,o.dst≠O t->∀d∈f.bs,(s.bG t).bb d=W->eB p.tick (s.bG t)=W)
  (v1:f.w=W->∀d st x,aF s.b d=O (st,x)->d∉f.bs->∀d'∈f.bs,x.bb d'=W->x.Hm p.tick=W)
  (P0:f.w=W->∀t,o.dst≠O t->∀d∈eQ o,(s.bG t).bb d=F)
  (w1:f.w=W->∀d st x,aF s.b d=O (st,x)->d∉f.bs->∀d'∈eQ o,x.bb d'=F):aU P E T X s' q1:=by
 have y1:p.tick<=g.tick:=I.tick;simp only[x4,aP,lC,iB]at p0;obtain⟨w0,A1,C⟩:=p0;have x0:f.w=W->∀d st x,aF g.b d=O (st,x)->d∈f.bs/\st<g.tick/\(∀e,x.bb e=W->e∈f.bs)/\x.Hm g.tick=W/\(d∈eQ o∨aF p.b d≠Y):=λb d st x y=>by rw[b]at C;exact yo C d st x (gz y)
 have still:f.w=F->q1.b=q.b/\q1.g=q.g/\q1.a=q.a/\q1.u=q.u/\∀t,o.dst≠O t->q1.r t=q.r t:=λb=>w.still (by grind);have A:∀d,d∈f.bs->aF s'.b d=aF g.b d:=λd a=>by
  rw[t0];cases b:f.w with
  |true=>simp[a]|false=>
   simp only[jo,false_and,cA];rw[b]at C;simp only[aX]at C;rcases zG C d a with⟨st,x,e1,e2⟩|⟨e1,e2⟩
   .rw[e1,<-q0 d a];exact I.b d st x e1 e2
   grind
 have Q0:∀d,d∉f.bs->aF s'.b d=aF s.b d:=λd a=>by grind
 have R0:∀tick d,d∉f.bs->kG s.b s'.b q.g q1.g tick d:=λtick d a=>.inl ⟨Q0 d a,(w.ev d λe=>a (s0 d e)).2⟩;have S0:f.w=W->∀d,d∉eQ o->kG s.b s'.b q.g q1.g p.tick d:=λb d T0=>by
  by_cases a:d∈f.bs
  .obtain ⟨ev,a0⟩:=w.ev d T0;unfold kG;rw[A d a];cases y:aF g.b d with
   |none=>grind|some e=>
    obtain⟨f0,J⟩:=e;by_cases U0:f0<p.tick
    .left;exact⟨by rw[<-q0 d a];exact (I.b d f0 J y U0).symm,a0⟩
    .obtain ⟨_,_,_,_,g0⟩:=x0 b d f0 J y;rcases g0 with g0|g0
     grind
     .cases B1:aF p.b d with
      |none=>grind|some e=>
       obtain⟨st,x⟩:=e;have h0:aF s.b d=O (st,x):=by grind
       have b0:=h.bD d;have K:=z.bD d;rw[h0]at b0;rw[y]at K;right;right;cases x with
       |cells u rs=>
        cases J with
        |cells X0 a1=>exact .inl ⟨a0,_,_,_,_,_,_,h0,rfl⟩|br f1 e1 g1=>obtain⟨_,_,cs,c0,_⟩:=b0;obtain⟨_,D⟩:=K;rw[c0,D]at ev;rcases ev with ev|⟨_,_,_,ev⟩|⟨_,_,_,ev,_⟩<;>cases ev
       |br t e xs=>
        obtain⟨i1,c0⟩:=b0;cases J with
        |cells X0 a1=>obtain⟨_,_,cs,D,_⟩:=K;rw[c0,D]at ev;rcases ev with ev|⟨_,_,ev,_⟩|⟨_,_,_,_,ev,_⟩<;>cases ev
        |br f1 e1 g1=>
         obtain⟨i0,D⟩:=K;rw[c0,D]at ev;rcases ev with ev|⟨_,_,ev,_⟩|⟨e2,l,C1,y0,A0,D1⟩
         .cases ev
         .cases ev
         .simp only[aN,Bx.br.injEq]at y0 A0;obtain⟨rfl,rfl⟩:=y0;obtain⟨rfl,rfl⟩:=A0;rw[i1]at i0;cases i0;exact .inr ⟨a0,_,_,_,_,_,_,_,h0,rfl,by grind,M⟩
  grind
 refine⟨λt=>?_,λd=>?_,L0,λd st x G=>?_,λk j0 k0 i=>?_,by rw[w.df];exact h.df⟩
 .
  rw[I0 t,Q];by_cases a:o.dst=O t
  .rw[aq a];rw[a]at w0;obtain⟨e1,_⟩:=FL w0;exact(z.ct t).mono (λd l0=>.inl ⟨A d (e1 d l0),rfl⟩) u0
  .rw[ao a];by_cases m0:t∈ji o
   .rw[aq m0];exact .none _
   rw[ao m0];have n0:=h.ct t;cases b:f.w with
   |false=>obtain⟨e1,e2,_,_,j1⟩:=still b;rw[j1 t a];exact n0.mono (λd _=>.inl ⟨by grind,by rw[e2]⟩) (bq _)|true=>
    have L:bA P E T s'.b q1.g s.tick (s.bG t) (q.r t):=by
     by_cases N:∃d∈f.bs,(s.bG t).bb d=W
     .obtain ⟨d,B0,C0⟩:=N;refine(n0.yl (N0 b t a d B0 C0)).mono (λd' H=>S0 b d' λe=>?_) M
      grind
     .exact n0.mono (λd l0=>R0 _ d λe=>N ⟨d,e,l0⟩) (bq _)
    rcases w.r t a m0 with e|⟨d,gg,off,len,e1,e2,e3⟩
    grind
    .rw[e1]at L;have D0:d∈f.bs:=Rq λj=>e2 (r0 d j);have o0:=P0 b t a;generalize s.bG t=r at L o0;generalize hv:cH.view d gg off len=v at L;cases L with
     |none=>exact .none _|val t x _ av k1 _=>subst hv;cases k1
     |const v _=>
      unfold cB at hv
      grind
     |bF=>cases hv
     |dT d' k _ B=>exact .dT d' k _ λst u rs c=>by grind|whole d' _ B=>
      refine .whole d' _ λst t e xs c=>?_;have:=B st t e xs c;rw[<-hv]at this;simp only[cH.view.injEq]at this;obtain⟨rfl,_⟩:=this;rcases e3 with e3|e3
      .rw[A d D0]at c;have n:=z.bD d;rw[c,e3]at n;obtain⟨_,n⟩:=n;cases n
      .have:=o0 d e3;simp[R.bb]at this
     |gq d' i k l1 t x _ m1 B=>exact .gq d' i k l1 t x _ m1 λst n1 e xs c=>by have:=(B st n1 e xs c).1;rw[<-hv]at this;cases this
     |dF=>cases hv
     |gw=>cases hv
     |fn=>cases hv
     |mR=>cases hv
     |jy=>cases hv
     |kq=>cases hv
     |sub d' o1 m _ B=>
      refine .sub d' o1 m _ λst t e xs c=>?_;have:=B st t e xs c;rw[<-hv]at this;obtain⟨this,_⟩:=this;simp only[cH.view.injEq]at this;obtain⟨rfl,_⟩:=this;rcases e3 with e3|e3
      .rw[A d D0]at c;have n:=z.bD d;rw[c,e3]at n;obtain⟨_,n⟩:=n;cases n
      .have:=o0 d e3;simp[R.bb]at this
     |it _=>cases hv
     |sN=>cases hv
     |nF=>cases hv
     |hk=>cases hv
     |mc=>cases hv
     |agg=>cases hv
 .
  rw[Q];by_cases j:f.w=W/\d∈f.bs
  .rw[A d j.2];exact(z.bD d).mono (λst x G d' H=>.inl ⟨A d' ((x0 j.1 d st x G).2.2.1 d' H),rfl⟩) u0
  .have p1:aF s'.b d=aF s.b d:=by grind
   rw[p1];cases b:f.w with
   |false=>obtain⟨e1,e2,_⟩:=still b;rw[e1];exact(h.bD d).mono (λst x G d' H=>.inl ⟨by grind,by rw[e2]⟩) (bq _)|true=>
    have a:d∉f.bs:=λe=>j ⟨b,e⟩;rw[(w.b d (r0 d a) λe=>a (s0 d e)).1];have c:=h.bD d;cases y:aF s.b d with
    |none=>trivial|some e=>
     obtain⟨st,x⟩:=e;rw[y]at c;by_cases N:∃d'∈f.bs,x.bb d'=W
     .obtain ⟨i0,B0,C0⟩:=N;have r1:=c.yl (tick':=p.tick) λE0 G0 e=>by grind
      refine r1.mono (λE0 G0 e d' H=>?_) M
      grind
     .refine c.mono (λE0 G0 e d' H=>?_) (bq _)
      grind
 .rw[Q];by_cases j:f.w=W/\d∈f.bs
  grind
  .rw[t0,ao j]at G;exact h.Ez d st x G
 .rw[J0];rw[K0]at k0;by_cases j:f.w=W/\k∈f.ks
  .rw[aq j];exact z.heap k j0 (by rw[I.m,H0,k0,ck.2 j.2];rfl) i
  .rw[ao j];have:=h.heap k j0 k0 i;have e:q1.a (dY k i)=q.a (dY k i)/\q1.u (dY k i)=q.u (dY k i):=by
    cases b:f.w with
    |false=>grind|true=>
     refine w.a k i j0 ?_
     grind [ik,ck]
   grind
end
section
variable{P:ai}{E:cd}{U:cp}{T:dt U.C}{X:gy U}{w0:af}{I0:aA}{n:Nat}{α:Type}{out:α}{esc:Z (Nat×Nat)}{ops:Array aC}
def aU.FM {s s':S U.C} {q:St} (h:aU P E T X s q) (f:∀t,s'.bG t=s.bG t∨s'.bG t=.none) (a:∀d,aF s'.b d=aF s.b d∨aF s'.b d=Y) (g:∀t st x,aF s'.r t=O (st,x)->st<s'.tick) (j:∀d st x,aF s'.b d=O (st,x)->st<s'.tick)
  (l:∀t,eB s'.tick (s'.bG t)=W) (m:∀d st x,aF s'.b d=O (st,x)->x.Hm s'.tick=W) (n:∀k,k<U.nk->s'.m k=W->s.m k=W/\U.get k s'.h=U.get k s.h):aU P E T X s' q:=by
 have b:∀d,kG s.b s'.b q.g q.g s'.tick d:=λd=>by
  rcases a d with e|e
  .exact .inl ⟨e,rfl⟩
  .exact .inr (.inl e)
 refine⟨λt=>?_,λd=>?_,g,j,λk c o i=>?_,h.df⟩
 .rcases f t with e|e
  .have:=l t;rw[e]at this⊢;exact((h.ct t).yl this).mono (λd _=>b d) (bq _)
  .rw[e];exact .none _
 .rcases a d with e|e
  .have:=m d;rw[e]at this⊢;exact((h.bD d).yl this).mono (λ_ _ _ d _=>b d) (bq _)
  .rw[e];trivial
 .obtain ⟨p,r⟩:=n k c o;rw[r];exact h.heap k c p i
theorem yp(d tick:Nat)(l:Z (Nat×Nat×R U.C))(t:Nat):aF (jY d tick l) t=(aF l t).map λe=>if e.2.bb d=W then(tick,.none)else e:=by
 induction l with
 |nil=>rfl|cons e l a=>
  obtain⟨b,st,x⟩:=e;simp only[jY];cases c:x.bb d with
  |true=>
   simp only[aW,aT,a]
   grind
  |false=>
   simp only[aX,aT,a]
   grind
theorem S.Tb {s s':S U.C} (h:s'.r=jY d tick s.r) (t:Nat):s'.bG t=if(s.bG t).bb d=W then .none else s.bG t:=by grind [S.ib,yp,aF,R.bb]
theorem FN{d:Nat}:∀{l:Z (Nat×Nat×B U.C)},ns d l=W->∀e st x,aF l e=O (st,x)->x.bb d=F
 |[],h,e,st,x,a=>by cases a
 |(d',b,c)::l,h,e,st,x,a=>by
  simp only[ns,aP,iB]at h;rw[aT]at a;split at a
  grind
  .exact FN h.2 e st x a
theorem ON{q:St}:∀{f:Z Nat}{s s0:S U.C},Sk f s=O s0->aU P E T X s q->aU P E T X s0 q/\bw s s0/\s0.m=s.m/\(∀t,s0.bG t=s.bG t∨s0.bG t=.none)/\(∀d,aF s0.b d=aF s.b d∨aF s0.b d=Y)/\∀d∈f,(∀t,(s0.bG t).bb d=F)/\∀e st x,aF s0.b e=O (st,x)->x.bb d=F
 |[],s,s0,h,c=>by simp only[Sk,aN]at h;subst h;exact⟨c,.refl s,rfl,λ_=>.inl rfl,λ_=>.inl rfl,λd l=>by cases l⟩
 |d::f,s,s0,h,c=>by
  simp only[Sk]at h;obtain⟨A,h⟩:=az h;have g:=λt=>S.Tb (s:=s) (s':={s with r:=jY d s.tick s.r,b:=bu s.b d,tick:=s.tick+1}) rfl t;have m:∀e,aF (bu s.b d) e=aF s.b e∨aF (bu s.b d) e=Y:=λe=>by
   rw[aR]
   grind
  have n:∀t st x,aF (jY d s.tick s.r) t=O (st,x)->st<s.tick+1:=λt st x a=>by
   rw[yp]at a;simp only[c8]at a;obtain⟨⟨o,p⟩,e1,i⟩:=a;split at i
   grind
   .simp only[cz]at i;have:=c.zo t o p e1;omega
  have u:aU P E T X {s with r:=jY d s.tick s.r,b:=bu s.b d,tick:=s.tick+1} q:=by
   refine c.FM (λt=>?_) m n (λe st x a=>?_) (λt=>?_) (λe st x a=>?_) λk _ v=>⟨v,rfl⟩
   grind
   .rw[aR]at a;split at a
    .cases a
    .have:=c.Ez e st x a
     grind
   .rw[g t];split
    .rfl
    .exact hX (cO _) (c.ct t).eB
   .rw[aR]at a;split at a
    .cases a
    .have:=c.bD e;rw[a]at this;exact B.mI (cO _) this.Hm
  have w:bw s {s with r:=jY d s.tick s.r,b:=bu s.b d,tick:=s.tick+1}:=by
   refine⟨rfl,cO _,λt st x a y=>?_,λe st x a y=>?_,λh=>⟨rfl,rfl⟩⟩
   .simp only[yp,c8]at a
    grind
   grind
  obtain⟨z,g2,g3,g4,g5,C⟩:=ON h u;refine⟨z,w.trans g2,g3,λt=>?_,λe=>?_,λd' j=>?_⟩
  grind
  grind
  .rcases fb.1 j with rfl|j
   .refine ⟨λt=>?_,λe st x a=>?_⟩
    .rcases g4 t with e|e
     .rw[e,g t];split
      .rfl
      grind
     .rw[e];rfl
    grind [FN]
   grind
structure Tc(ops:Array Oper)(st:Nat->S U.C)(rc:Nat->uQ U.C)(j:Nat):Prop where
 bG:∀t,(st (j+1)).bG t=if uS rc t j=W then(rc j).val t else(st j).bG t
 box:∀d,aF (st (j+1)).b d=if(rc j).f.w=W/\d∈(rc j).f.bs then aF (rc j).s1.b d else aF (st j).b d
 get:∀k,U.get k (st (j+1)).h=if(rc j).f.w=W/\k∈(rc j).f.ks then U.get k (rc j).s1.h else U.get k (st j).h
 later:bw (st j) (st (j+1))
 tick:(rc j).s1.tick<=(st (j+1)).tick
 zo:(∀t s x,aF (st j).r t=O (s,x)->s<(st j).tick)->∀t s x,aF (st (j+1)).r t=O (s,x)->s<(st (j+1)).tick
 bx:(rc j).f.w=W->∀d s x,aF (rc j).s1.b d=O (s,x)->d∈(rc j).f.bs/\s<(rc j).s1.tick/\(∀e,x.bb e=W->e∈(rc j).f.bs)/\x.Hm (rc j).s1.tick=W
 rg:∀t,uS rc t j=W->(∀e,((rc j).val t).bb e=W->e∈(rc j).f.bs)/\eB (rc j).s1.tick ((rc j).val t)=W
theorem sd(s:S C)(dst:V Nat)(r:R C)(t:Nat):(s.put dst r).bG t=if dst=O t then r else s.bG t:=by
 cases dst with
 |none=>simp[S.put]|some d=>grind [S.bG,S.put,aT]
theorem V8(L:cD U T){st:Nat->S U.C}{rc:Nat->uQ U.C}{Zloc:AV->St->Prop}{N:V Nat}(h:ZG P E T X w0 I0 n esc ops Zloc N j o (st j) (st (j+1)) (rc j)):Tc ops st rc j:=by
 cases h with
 |run s0 c m p v q Q w a0 f a y=>
  have B:=Q;simp only[x4,aP,lC,iB]at B;obtain⟨f0,g0,C⟩:=B;have h0:s0.tick<=(rc j).s1.tick:=w.tick;have bx:(rc j).f.w=W->∀d s x,aF (rc j).s1.b d=O (s,x)->d∈(rc j).f.bs/\s<(rc j).s1.tick/\(∀e,x.bb e=W->e∈(rc j).f.bs)/\x.Hm (rc j).s1.tick=W:=λf d s x D=>by
   rw[f]at C;obtain⟨G,e2,e3,i0,_⟩:=yo C d s x (gz D)
   grind
  have H:∀d,aF (st (j+1)).b d=if(rc j).f.w=W/\d∈(rc j).f.bs then aF (rc j).s1.b d else aF (st j).b d:=λd=>by
   rw[a,<-c.b];simp only[S.tN];cases f:(rc j).f.w with
   |false=>simp|true=>
    simp only[aW,wu,qP,mW];by_cases b0:d∈(rc j).f.bs
    grind
    .simp only[b0,cA];cases D:aF (rc j).s1.b d with
     |none=>rfl|some e=>grind
  have c0:bw s0 (st (j+1)):=by
   rw[a];refine⟨rfl,by show s0.tick<=(rc j).s1.tick+1;omega,λt s x b l=>?_,λd s x b l=>?_,λz=>?_⟩
   .simp only[S.tN]at b
    grind [aF,k7,ji,fN,aN,cz,aT]
   .rw[<-a,H,<-c.b]at b;split at b
    .have:=w.b d s x b l
     grind [S.only,hE]
    .exact b
   .simp only[S.tN]at z⊢;cases g:(rc j).f.w&&Nat.ble s0.tick (rc j).s1.hv with
    |true=>rw[g]at z;simp only[aW]at z;simp only[aP,rD]at g;omega|false=>grind
  refine⟨λt=>?_,H,λk=>?_,c.later.trans c0,by rw[a];exact cO _,λl t s x b=>?_,bx,λt i=>?_⟩
  .rw[a,<-c.bG t];have d0:ik t (ji o)=decide (t∈ji o):=by grind [ji,ck,ik]
   simp only[uS,uQ.val,m,p,d0];cases I:o.dst with
   |none=>grind [S.bG,S.tN,fN,ji]|some d=>
    unfold S.bG S.tN;simp only[aT,fN];by_cases e:d=t
    .subst e;simp;rfl
    grind
  .rw[a,<-c.h];simp only[S.tN];cases f:(rc j).f.w with
   |false=>simp|true=>
    simp only[lD,mW];cases g:Nat.ble s0.tick (rc j).s1.hv with
    |true=>simp only[aW];rw[CW L]|false=>
     simp only[aX];have e0:(rc j).s1.hv<s0.tick:=by grind [Nat.lt_or_ge,Nat.ble,Nat.ble_eq]
     obtain⟨_,e⟩:=w.h e0;rw[e];simp[S.only]
  .rw[a]at b⊢;have J:=c.zo l;simp only[S.tN]at b⊢
   grind [aF,k7,ji,fN,aN,cz,aT]
  .unfold uQ.val;by_cases K:(rc j).dst=O t
   .rw[aq K]
    grind [FL]
   .rw[ao K];exact⟨λe A=>by simp[R.bb]at A,rfl⟩
 |skip s0 c m p v q g f a y=>
  have G:(rc j).s1.tick=(st (j+1)).tick:=by rw[g,a]
  refine⟨λt=>?_,λd=>?_,λk=>?_,?_,Nat.le_of_eq G,λl t s x b=>?_,λf=>(by grind),λt i=>?_⟩
  .simp only[uS,uQ.val,p,m];rw[a,g,sd,c.bG]
   grind [ik]
  .rw[a,q,<-c.b];simp;cases o.dst<;>rfl
  .rw[a,q,<-c.h];simp;cases o.dst<;>rfl
  .rw[a];exact c.later.trans (bi _ _)
  .rw[a]at b⊢;have J:=c.zo l;cases I:o.dst with
   |none=>rw[I]at b;exact J t s x b|some d=>grind [S.put,aT,aN,cz]
  .have i:o.dst=O t:=by simpa[uS,p,ik,m]using i
   simp only[uQ.val,m,aq i];rw[g,sd,aq i];exact⟨λe A=>by simp[pX,R.bb,cZ]at A,rfl⟩
 |ea s0 c m p v q g a0 f a y=>
  have r:(rc j).f.w=F:=by rw[q]
  have u:∀t,uS rc t j=F:=λt=>by simp[uS,m,p,ik]
  refine⟨λt=>?_,λd=>?_,λk=>?_,?_,?_,λl t s x b=>?_,λf=>?_,λt i=>?_⟩
  .rw[u,a,c.bG];simp
  .rw[a,r,<-c.b];simp
  .rw[a,r,<-c.h];simp
  .rw[a];exact c.later
  .rw[g,a];exact bq _
  .rw[a]at b⊢;exact c.zo l t s x b
  .rw[r]at f;cases f
  .rw[u]at i;cases i
 |rest m p v q g a j0 y=>
  have r:(rc j).f.w=F:=by rw[q]
  have u:∀t,uS rc t j=F:=λt=>by simp[uS,m,p,ik]
  refine⟨λt=>?_,λd=>?_,λk=>?_,?_,?_,λl t s x b=>?_,λf=>?_,λt i=>?_⟩
  .rw[u,a];simp
  .rw[a,r];simp
  .rw[a,r];simp
  .rw[a];exact .refl _
  .rw[g,a];exact bq _
  .rw[a]at b⊢;exact l t s x b
  .rw[r]at f;cases f
  .rw[u]at i;cases i
variable{st:Nat->S U.C}{rc:Nat->uQ U.C}{N:Nat}
theorem wN(h:∀j,j<N->Tc ops st rc j)(t:Nat):∀j,j<=N->(st j).bG t=hF (λ_=>W) (uS rc t) (λi=>(rc i).val t) ((st 0).bG t) j
 |0,_=>rfl|j+1,a=>by
  simp only[hF,lD];rw[(h j M).bG t,wN h t j M]
  grind
theorem wO(h:∀j,j<N->Tc ops st rc j)(d:Nat):∀j,j<=N->aF (st j).b d=hF (λ_=>W) (El rc d) (λi=>aF (rc i).s1.b d) (aF (st 0).b d) j
 |0,_=>rfl|j+1,b=>by
  simp only[hF,lD];rw[(h j M).box d,wO h d j M];by_cases e:(rc j).f.w=W/\d∈(rc j).f.bs
  .simp[e,El,ck.2 e.2]
  .rw[ao e];have:El rc d j=F:=by
    cases a:El rc d j with
    |false=>rfl|true=>
     simp only[El,aP]at a
     grind [ck]
   grind
theorem HP(h:∀j,j<N->Tc ops st rc j)(k:Nat):∀j,j<=N->U.get k (st j).h=hF (λ_=>W) (Lu rc k) (λi=>U.get k (rc i).s1.h) (U.get k (st 0).h) j
 |0,_=>rfl|j+1,b=>by
  simp only[hF,lD];rw[(h j M).get k,HP h k j M];by_cases e:(rc j).f.w=W/\k∈(rc j).f.ks
  .simp[e,Lu,ck.2 e.2]
  .rw[ao e];have:Lu rc k j=F:=by
    cases a:Lu rc k j with
    |false=>rfl|true=>
     simp only[Lu,aP]at a
     grind [ck]
   grind
def ja(h:∀j,j<N->Tc ops st rc j):∀i j,i<=j->j<=N->bw (st i) (st j)
 |i,0,a,b=>by have:i=0:=M;subst this;exact .refl _|i,j+1,a,b=>by
  by_cases e:i=j+1
  .subst e;exact .refl _
  .exact (ja h i j M M).trans (h j M).later
def wP(h:∀j,j<N->Tc ops st rc j){i:Nat}(a:i<j)(b:j<=N):(rc i).s1.tick<=(st j).tick:=ef (h i M).tick (ja h (i+1) j a b).tick
def AH(h:∀j,j<N->Tc ops st rc j)(h0:∀t s x,aF (st 0).r t=O (s,x)->s<(st 0).tick):∀j,j<=N->∀t s x,aF (st j).r t=O (s,x)->s<(st j).tick
 |0,_=>h0|j+1,a=>(h j M).zo (AH h h0 j M)
theorem HQ(h:∀j,j<N->Tc ops st rc j)(h0:∀t s x,aF (st 0).b t=O (s,x)->s<(st 0).tick)(a:j<=N)(d s:Nat)(x:B U.C)(b:aF (st j).b d=O (s,x)):s<(st j).tick:=by
 have g:=(ja h 0 j M a).tick;rw[wO h d j a]at b;rcases kK (D:=λ_=>W) (wr:=El rc d) (v:=λi=>aF (rc i).s1.b d) (b0:=aF (st 0).b d) (N:=j)with e|⟨i,f,_,c,e⟩
 grind
 .rw[e]at b;simp only[El,aP]at c;have:=((h i M).bx c.1 d s x b).2.1;have:=wP h f a;omega
def CZ(h:∀j,j<N->Tc ops st rc j)(h0:∀t,eB (st 0).tick ((st 0).bG t)=W)(a:j<=N)(t:Nat):eB (st j).tick ((st j).bG t)=W:=by
 rw[wN h t j a];rcases kK (D:=λ_=>W) (wr:=uS rc t) (v:=λi=>(rc i).val t) (b0:=(st 0).bG t) (N:=j)with e|⟨i,b,_,c,e⟩
 .rw[e];exact hX (ja h 0 j M a).tick (h0 t)
 .rw[e];exact hX (wP h b a) ((h i M).rg t c).2
def C6(h:∀j,j<N->Tc ops st rc j)(h0:∀d s x,aF (st 0).b d=O (s,x)->x.Hm (st 0).tick=W)(b:j<=N)(d s:Nat)(x:B U.C)(a:aF (st j).b d=O (s,x)):x.Hm (st j).tick=W:=by
 rw[wO h d j b]at a;rcases kK (D:=λ_=>W) (wr:=El rc d) (v:=λi=>aF (rc i).s1.b d) (b0:=aF (st 0).b d) (N:=j)with e|⟨i,f,_,c,e⟩
 .rw[e]at a;exact B.mI (ja h 0 j M b).tick (h0 d s x a)
 .rw[e]at a;simp only[El,aP]at c;exact B.mI (wP h f b) ((h i M).bx c.1 d s x a).2.2.2
theorem HR{D:Nat->aa}{s0:S U.C}(h0:∀t s x,aF s0.r t=O (s,x)->s<s0.tick)(a:0<s0.tick):∀N t s x,aF (sig rc D s0 N).r t=O (s,x)->s<s0.tick
 |0,t,s,x,h=>h0 t s x h|N+1,t,s,x,h=>by
  simp only[sig]at h;cases b:D N with
  |false=>rw[b]at h;exact HR h0 a N t s x h|true=>
   rw[b]at h;simp only[aW,S.S9]at h;have c:aF (k7 0 (rc N).uR (sig rc D s0 N).r) t=O (s,x)->s<s0.tick:=λh=>by
    rw[fN]at h;split at h
    grind
    .exact HR h0 a N t s x h
   grind [aT,aN,cz]
def J6{s0:S U.C}{D:Nat->aa}:∀N,(∀i,i<N->D i=F)->sig rc D s0 N=s0
 |0,_=>rfl|N+1,h=>by simp only[sig,h N (xy N),aX];exact J6 N λi hi=>h i M
end
end Go.X
