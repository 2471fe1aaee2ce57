import Derived.Laws.IdiomRangeMap
import Derived.Test.YticakdhfjeljkaaGreatDoorZ6
set_option linter.all false
open Option renaming some->O,none->Y
open Bool renaming true->W,false->F
namespace Go.X
open Go Go.Ev
variable{listed:Array aa}{i:Nat}{f:bH}{fn:Func}{c:bT}{ps:Z Ty}{rs:Z RK}{ea:V (an×Ty)}{esc:Z (Nat×Nat)}{hint:e9}
section
variable{P:ai}{E:cd}{U:cp}{T:dt U.C}{X:gy U}{w0:af}{I0:aA}{n:Nat}{α:Type}{out:α}{esc:Z (Nat×Nat)}{ops:Array aC}
theorem hY(h:Ci ops=W){k:Nat}{b:aC}(d:ops[k]?=O b):
  (∀e∈b.after,Region.binds .any e=W->e.on<k)/\(∀i a,ops[i]?=O a->i≠k->∀t∈ji b,t∉a.looksAt ops)/\∀i a,i<k->ops[i]?=O a->((Region.before ops).getD k 0).testBit i=W∨a.apart ops b=W:=by
 have f:k<ops.size:=(rr.1 d).1;unfold Ci at h;have:=di.1 h k (uf.2 f);simp only[d,aP]at this;obtain⟨⟨⟨l,_⟩,g⟩,m⟩:=this;refine⟨λe n o=>?_,λi a c p t q f=>?_,λi a r c=>?_⟩
 grind [Array.all_eq_true_iff_forall_mem]
 .have j:i<ops.size:=(rr.1 c).1;have:=di.1 g i (uf.2 j);simp only[c,lC,di]at this
  grind [cC,ck]
 grind
def EF(h:i<listed.size):(listed.setIfInBounds i W).getD i F=W:=by simp[h]
def C7{j:Nat}(h:i≠j):(listed.setIfInBounds i W).getD j F=listed.getD j F:=getD_set_ne F h
theorem V9(hi:i<listed.size)(h:listed.getD i F=F):listed.getD i W=F:=by grind
theorem zH{o:aC}{t:Nat}(h:t∈ji o):t∈o.looksAt ops:=by
 unfold ji at h;split at h
 .rename_i args b a;split at h
  .rename_i c y d;simp only[gD]at h;subst h;unfold Oper.looksAt;refine List.mem_append_left _ ?_;rw[a];simp only[Op.operands,Call.operands]
   grind
  .cases h
 .cases h
theorem uT{o:aC}{d:Nat}:∀{l:Z aC},o∈l->d∈eQ o->d∈xZ l
 |[],h,_=>by cases h
 |b::l,h,a=>by
  simp only[xZ,fK];rcases fb.1 h with rfl|h
  grind
  .exact .inr (uT h a)
def J7{f:Nat->V α}{r:α}:∀{l:Z Nat},VS f l=O r->∀i∈l,f i=O r
 |[],h,_,_=>by cases h
 |[j],h,i,hi=>by simp only[gD]at hi;subst hi;exact h|j::a::l,h,i,hi=>by
  obtain⟨b,c⟩:=Fy (show both (f j) (VS f (a::l))=O r from h);rcases fb.1 hi with rfl|hi
  .exact b
  .exact J7 c i hi
variable(L:cD U T)
include L in
theorem Wa(x:P.follows .mixedOrders=W)(y:bJ P E T X){sB:S U.C}(z:(∃k,sB.m k=W)->E.cT=F){id:Nat}{ops:Array aC}{s:S U.C}{K:S U.C->V α}{q:St}{Q:e7->St->Prop}{Zloc:AV->St->Prop}(t:ju n ops=W)(A:bw sB s)
  (h:Fm X esc ops (ops.size+1) (Array.replicate ops.size F) s K=O out) (B:aU P E T X s q) (I:∀s' u,aU P E T X s' u->bw s s'->K s'=O out->Q .normal u):nC P E w0 I0 n (.region id ops W) Q Zloc q:=by
 refine OK x t (λlisted q=>∃m s',aU P E T X s' q/\bw s s'/\Fm X esc ops m listed s' K=O out) ?_ ?_ ⟨_,s,B,.refl s,h⟩
 .rintro listed q ⟨m,s',f,b,a⟩ i hi;cases m with
  |zero=>cases a
  |succ m=>
   unfold Fm at a;split at a
   grind
   .rename_i j l h0;rw[h0]at hi;have c:=J7 a i hi;split at c
    .rename_i o v;obtain⟨J,c⟩:=az c;have w:=rB.1 t o (kQ v);simp only[aP]at w;have C:kh ops o q=O W:=by grind [kh,Option.isNone_iff_eq_none]
     refine⟨o,v,.inl ⟨C,dL.x ?_ _⟩⟩;cases HH (w0:=w0) (I0:=I0) L y (by rw[b.m,A.m];exact z) w.1 c with
     |one s1 r d e=>exact mG (e q f) λq1 g=>⟨q1,jc.refl _,m,s1,g.1,b.trans d,r⟩|h8 N s1 s2 D G d H e=>
      refine mG (e q f) λq1 g=>⟨q1,jc.refl _,?_⟩
      rcases g with g|g
      .exact ⟨m,s1,g,b.trans d,D⟩
      .exact ⟨m,s2,g,b.trans H,G⟩
     |ea p s1 r d e=>cases r
    .cases c
 .rintro listed q ⟨m,s',f,b,a⟩ h0;cases m with
  |zero=>cases a
  |succ m=>grind [Fm]
include L in
theorem kl(R2:P.follows .mixedOrders=W)(S2:bJ P E T X){sB:S U.C}:HM P E T X w0 I0 n esc sB out:=by
 intro T2 id ops hint s K U2 Q Zloc kx X2 s2 E1 h a3 G1;unfold Sn at h;split at h
 grind [Wa]
 unfold Om at h;obtain⟨y0,h⟩:=az h;split at h;case h_2=>cases h
 rename_i n0 A0;obtain⟨L0,t2,u2,_,_,v2⟩:=ON A0 a3;obtain⟨E0,st,c,G0,_,e0,H1,b3⟩:=CY (w0:=w0) (I0:=I0) (n:=n) (T:=T) L S2 (m0:=n0.m) (by rw[u2,E1.m];exact T2) s2 rfl X2 (by rw[u2,E1.m]) ops.toList Y 0 [] n0 K (λj=>aH) rfl (ef E1.tick t2.tick) (λk G=>by cases G) h;replace G0:∀k,E0=O k->0<=k/\k<0+ops.toList.length:=λk G=>(G0 k G).elim (λh=>by cases h) (λh=>h);have x2:ops.toList.length=ops.size:=aH;rw[dN,x2]at H1;rw[dN,x2]at G0;obtain⟨N,I1⟩:∃N,N=ops.size:=⟨_,rfl⟩
 rw[<-I1]at H1;rw[<-I1]at G0;have k1:∀j,j<N->(c j).f.i=j/\(∃o,ops[j]?=O o/\ZG P E T X w0 I0 n esc ops Zloc E0 j o (st j) (st (j+1)) (c j))/\∀k,k<j->Pr ((Region.before ops).getD j 0) (c j) (c k):=λj j0=>by grind
 clear b3 h;have p:∀j,j<N->Tc ops st c j:=λj j0=>by grind [V8]
 have J1:∀t s x,aF (st 0).r t=O (s,x)->s<(st 0).tick:=by rw[e0];exact L0.zo
 have K1:∀t s x,aF (st 0).b t=O (s,x)->s<(st 0).tick:=by rw[e0];exact L0.Ez
 have N0:∀t,eB (st 0).tick ((st 0).bG t)=W:=by rw[e0];exact λt=>(L0.ct t).eB
 have P0:∀d s x,aF (st 0).b d=O (s,x)->x.Hm (st 0).tick=W:=by rw[e0];intro d s x f;have:=L0.bD d;rw[f]at this;exact this.Hm
 obtain⟨B0,P3⟩:∃B0,B0=(st N).tick+1:=⟨_,rfl⟩
 have y2:∀j,j<=N->(st j).tick<B0:=λj j0=>by have:=(ja p j N j0 (bq _)).tick;omega
 have c3:∀j,j<N->(c j).s1.tick<B0:=λj j0=>by have:=(p j j0).tick;grind
 obtain⟨z,Q0⟩:∃z:S U.C,z={n0 with tick:=B0}:=⟨_,rfl⟩
 have l1:z.tick=B0:=by rw[Q0]
 have d3:z.m=n0.m:=by rw[Q0]
 have L1:∀t,z.bG t=(st 0).bG t:=λt=>by rw[Q0,e0];rfl
 have N1:z.b=(st 0).b:=by rw[Q0,e0]
 have A2:z.h=(st 0).h:=by rw[Q0,e0]
 have zR:∀t s x,aF z.r t=O (s,x)->s<z.tick:=λt s x f=>by grind
 have e3:aU P E T X z U2:=by
  refine L0.FM (λt=>.inl (by rw[L1,e0])) (λd=>.inl (by rw[N1,e0])) zR (λd s x f=>?_) (λt=>?_) (λd s x f=>?_) λk _ f0=>⟨by grind,by rw[A2,e0]⟩
  grind
  .rw[L1,l1];exact hX (hQ (y2 0 (eM _))) (N0 t)
  .rw[N1]at f;rw[l1];exact B.mI (hQ (y2 0 (eM _))) (P0 d s x f)
 have H0:∀D t,(sig c D z N).bG t=hF D (uS c t) (λi=>(c i).val t) ((st 0).bG t) N:=λD t=>by rw[JZ,L1]
 have J0:∀D d,aF (sig c D z N).b d=hF D (El c d) (λi=>aF (c i).s1.b d) (aF (st 0).b d) N:=λD d=>by
  rw[OL d N λi hi a0 B2=>?_,N1];cases f3:aF (c i).s1.b d with
  |none=>grind|some e=>obtain ⟨s,x⟩:=e;exact ((p i hi).bx a0 d s x f3).1
 have m1:∀D k,U.get k (sig c D z N).h=hF D (Lu c k) (λi=>U.get k (c i).s1.h) (U.get k (st 0).h) N:=λD k=>by rw[OM L,A2]
 have C0:∀D,(sig c D z N).tick=B0:=λD=>by rw[CX,l1]
 have p0:∀D,(sig c D z N).m=n0.m:=λD=>by rw[Ta,d3]
 have C2:∀D t s x,aF (sig c D z N).r t=O (s,x)->s<(sig c D z N).tick:=λD t s x f=>by rw[C0,<-l1];exact HR zR (by grind) N t s x f
 have D0:∀d i,El c d i=W->(c i).f.w=W/\d∈(c i).f.bs:=λd i h=>by simp only[El,aP]at h;exact⟨h.1,ck.1 h.2⟩
 have i3:∀d i,((c i).f.w=W/\d∈(c i).f.bs)↔El c d i=W:=λd i=>⟨λh=>by simp[El,h.1,ck.2 h.2],D0 d i⟩
 have R0:∀k i,Lu c k i=W->(c i).f.w=W/\k∈(c i).f.ks:=λk i h=>by simp only[Lu,aP]at h;exact⟨h.1,ck.1 h.2⟩
 have j3:∀k i,((c i).f.w=W/\k∈(c i).f.ks)↔Lu c k i=W:=λk i=>⟨λh=>by simp[Lu,h.1,ck.2 h.2],R0 k i⟩
 have wr:∀t i,uS c t i=W↔(c i).dst=O t∨t∈(c i).uR:=λt i=>by simp[uS,ck]
 refine OK R2 s2 (λlisted q=>listed.size=N/\xM ops listed/\aU P E T X (sig c (λi=>listed.getD i F) z N) q/\∀k,E0=O k->listed.getD k F=F) ?_ ?_ ?_
 .
  intro listed q ⟨hsz,A0,k0,n1⟩ j j0;obtain⟨k3,o,i0,Q3⟩:=mem_ready.1 j0;have A:j<N:=by grind
  have S0:listed.getD j F=F:=VE k3;obtain⟨_,⟨R3,D2,l3⟩,P1⟩:=k1 j A;rw[i0]at D2;cases D2;refine⟨o,i0,?_⟩;have m3:∀i,i<j->listed.getD i F=F->((Region.before ops).getD j 0).testBit i=F:=λi hi C=>by
   cases h0:((Region.before ops).getD j 0).testBit i with
   |false=>rfl|true=>rw[zg A0 (qD h0) j0]at C;cases C
  have Q1:∀i,j<i->listed.getD i F=W->((Region.before ops).getD i 0).testBit j=F:=λi hi C=>by
   cases h0:((Region.before ops).getD i 0).testBit j with
   |false=>rfl|true=>rw[vT A0 (qD h0) (GO C)]at S0;cases S0
  have n3:∀i,i<N->(c i).f.i=i:=λi hi=>(k1 i hi).1;have E2:∀i,i<j->listed.getD i F=F->((c i).f.w=W∨(c j).f.w=W)->(∀d,d∈(c j).f.bs->d∉(c i).f.bs)/\∀k,k∈(c j).f.ks->k∉(c i).f.ks:=λi hi C a0=>by
   rcases(P1 i hi).1 with e|e
   grind
   .exact e (by grind)
  have r0:∀i,j<i->i<N->listed.getD i F=W->((c i).f.w=W∨(c j).f.w=W)->(∀d,d∈(c i).f.bs->d∉(c j).f.bs)/\∀k,k∈(c i).f.ks->k∉(c j).f.ks:=λi hi R1 C a0=>by
   rcases((k1 i R1).2.2 j hi).1 with e|e
   .rw[n3 j A,Q1 i hi C]at e;cases e
   grind
  have o1:∀i,i<N->∃H,ops[i]?=O H/\((c i).dst=H.dst∨(c i).dst=Y)/\∀t∈(c i).uR,t∈ji H:=λi hi=>by
   obtain⟨H,g,y⟩:=(k1 i hi).2.1;refine⟨H,g,?_⟩;cases y with
   |run _ _ l g0=>exact ⟨.inl l,λt m=>by rw[<-g0];exact m⟩|skip _ _ l g0=>exact ⟨.inl l,λt m=>by rw[g0]at m;cases m⟩
   |ea _ _ l g0=>exact ⟨.inr l,λt m=>by rw[g0]at m;cases m⟩
   |rest l g0=>exact ⟨.inr l,λt m=>by rw[g0]at m;cases m⟩
  have p1:∀(i:Nat)(H:aC)(t:Nat),((c i).dst=H.dst∨(c i).dst=Y)->(c i).dst=O t->H.dst=O t:=λi H t g y=>by
   rcases g with g|g
   .rw[<-g];exact y
   .rw[g]at y;cases y
  have o3:(c j).dst=o.dst∨(c j).dst=Y:=by obtain⟨H,g,y,_⟩:=o1 j A;rw[i0]at g;cases g;exact y
  have p3:∀t∈(c j).uR,t∈ji o:=by obtain⟨H,g,_,y⟩:=o1 j A;rw[i0]at g;cases g;exact y
  have q3:∀i,i<j->listed.getD i F=F->∀t,uS c t i=W->t∉o.looksAt ops:=λi hi C t m G2=>by
   obtain⟨H,g,y,c0⟩:=o1 i M;rcases(wr t i).1 m with m|m
   .rcases (hY y0 i0).2.2 i H hi g with e|e
    .rw[m3 i hi C]at e;cases e
    .exact (GF e).1 t (p1 i H t y m) G2
   .exact (hY y0 g).2.1 j o i0 M t (c0 t m) G2
  have H2:∀i,j<i->i<N->listed.getD i F=W->∀t,uS c t i=W->t∉o.looksAt ops/\uS c t j=F:=λi hi R1 C t m=>by
   obtain⟨H,g,y,c0⟩:=o1 i R1;have S3:H.apart ops o=W∨o.apart ops H=W:=by
    rcases(hY y0 g).2.2 j o hi i0 with e|e
    .rw[Q1 i hi C]at e;cases e
    .exact .inr e
   have e:o.apart ops H=W:=by
    rcases(hY y0 g).2.2 j o hi i0 with e|e
    .rw[Q1 i hi C]at e;cases e
    .exact e
   have I2:t∉o.looksAt ops:=by
    rcases(wr t i).1 m with m|m
    .exact (GF e).2.2 t (p1 i H t y m)
    .exact (hY y0 g).2.1 j o i0 M t (c0 t m)
   refine⟨I2,?_⟩;cases t0:uS c t j with
   |false=>rfl|true=>
    exfalso;rcases(wr t j).1 t0 with t0|t0
    .replace t0:=p1 j o t o3 t0;rcases(wr t i).1 m with m|m
     .exact (GF e).2.1 t t0 (p1 i H t y m)
     .exact (GF e).1 t t0 (zH (c0 t m))
    .exact I2 (zH (p3 t t0))
  have S1:∀t,t∈o.looksAt ops->(sig c (λi=>listed.getD i F) z N).bG t=(st j).bG t:=λt m=>by
   rw[H0,wN p t j (hQ A),<-wK (hQ A)];refine hG λi hi a0=>?_;rcases rE i j with h|h|h
   .rw[Bf h];cases C:listed.getD i F with
    |true=>rfl|false=>exact (q3 i h C t a0 m).elim
   .subst h;rw[S0];simp
   .rw[decide_eq_false M];cases C:listed.getD i F with
    |false=>rfl|true=>exact ((H2 i h hi C t a0).1 m).elim
  have T1:∀d,d∈(c j).f.bs->aF (sig c (λi=>listed.getD i F) z N).b d=aF (st j).b d:=λd l=>by
   rw[J0,wO p d j (hQ A),<-wK (hQ A)];refine hG λi hi a0=>?_;obtain⟨T0,U0⟩:=D0 d i a0;rcases rE i j with h|h|h
   .rw[Bf h];cases C:listed.getD i F with
    |true=>rfl|false=>exact ((E2 i h C (.inl T0)).1 d l U0).elim
   .subst h;rw[S0];simp
   .rw[decide_eq_false M];cases C:listed.getD i F with
    |false=>rfl|true=>exact ((r0 i h hi C (.inl T0)).1 d U0 l).elim
  have J2:∀k,k∈(c j).f.ks->U.get k (sig c (λi=>listed.getD i F) z N).h=U.get k (st j).h:=λk G=>by
   rw[m1,HP p k j (hQ A),<-wK (hQ A)];refine hG λi hi a0=>?_;obtain⟨T0,U0⟩:=R0 k i a0;rcases rE i j with h|h|h
   .rw[Bf h];cases C:listed.getD i F with
    |true=>rfl|false=>exact ((E2 i h C (.inl T0)).2 k G U0).elim
   .subst h;rw[S0];simp
   .rw[decide_eq_false M];cases C:listed.getD i F with
    |false=>rfl|true=>exact ((r0 i h hi C (.inl T0)).2 k U0 G).elim
  have t1:∀i,i≠j->(listed.setIfInBounds j W).getD i F=listed.getD i F:=λi hi=>C7 (eN hi);have U1:(listed.setIfInBounds j W).getD j F=W:=EF (by rw[hsz];exact A);have X1:∀t,(sig c (λi=>(listed.setIfInBounds j W).getD i F) z N).bG t=if uS c t j=W then(c j).val t else(sig c (λi=>listed.getD i F) z N).bG t:=λt=>by rw[H0,H0,sX (D:=λi=>listed.getD i F) t1 U1 A λJ i g y c0 X0=>?_];rw[(H2 i g y c0 t X0).2]at J;cases J
  have u1:∀d,aF (sig c (λi=>(listed.setIfInBounds j W).getD i F) z N).b d=if(c j).f.w=W/\d∈(c j).f.bs then aF (c j).s1.b d else aF (sig c (λi=>listed.getD i F) z N).b d:=λd=>by
   rw[J0,J0,sX (D:=λi=>listed.getD i F) t1 U1 A λJ i g y c0 X0=>?_]
   .by_cases e:(c j).f.w=W/\d∈(c j).f.bs
    .rw[aq e,aq ((i3 d j).1 e)]
    .rw[ao e,ao λh=>e (D0 d j h)]
   .obtain ⟨s3,c2⟩:=D0 d j J;obtain⟨d2,f2⟩:=D0 d i X0;exact(r0 i g y c0 (.inl d2)).1 d f2 c2
  have K2:∀k,U.get k (sig c (λi=>(listed.setIfInBounds j W).getD i F) z N).h=if(c j).f.w=W/\k∈(c j).f.ks then U.get k (c j).s1.h else U.get k (sig c (λi=>listed.getD i F) z N).h:=λk=>by
   rw[m1,m1,sX (D:=λi=>listed.getD i F) t1 U1 A λJ i g y c0 X0=>?_]
   .by_cases e:(c j).f.w=W/\k∈(c j).f.ks
    .rw[aq e,aq ((j3 k j).1 e)]
    .rw[ao e,ao λh=>e (R0 k j h)]
   .obtain ⟨s3,c2⟩:=R0 k j J;obtain⟨d2,f2⟩:=R0 k i X0;exact(r0 i g y c0 (.inl d2)).2 k f2 c2
  have L2:=A0.set j0;have N2:(listed.setIfInBounds j W).size=N:=by simp[hsz]
  have i2:∀b,tT P E T ops o (st j) b->kh ops o q=O b:=λb a0=>a0 _ _ _ q λt m=>by rw[<-S1 t m];exact k0.ct t
  have P2:∀k,E0=O k->k≠j->(listed.setIfInBounds j W).getD k F=F:=λk G t3=>by rw[t1 k t3];exact n1 k G
  cases l3 with
  |skip d0 I l g0 c1 u0 v1 a0 j2 d1=>
   have J:∀t,uS c t j=W↔o.dst=O t:=λt=>by rw[wr,g0,l];simp
   refine .inr ⟨i2 _ a0,N2,L2,?_,λk G=>P2 k G λe=>d1 (by rw[G,e])⟩;have x1:=k0.put o.dst (r:=pX) (u:=.gw []) (.gw [] [] rfl λi r q y1=>by simp at y1);refine x1.FM (λt=>.inl ?_) (λd=>.inl ?_) (C2 _) (λd s x f=>?_) (λt=>?_) (λd s x f=>?_) λk _ f0=>⟨?_,?_⟩
   .rw[X1,sd];by_cases e:o.dst=O t
    .rw[aq ((J t).2 e),aq e,uQ.val,l,aq e,v1,sd,aq e]
    .rw[ao (λh=>e ((J t).1 h)),ao e]
   .rw[u1,u0];simp;cases o.dst<;>rfl
   .rw[u1,u0]at f;simp only[jo,false_and,cA]at f;have:=k0.Ez d s x f;rw[C0]at this⊢;exact this
   .rw[X1];by_cases e:o.dst=O t
    .rw[aq ((J t).2 e),uQ.val,l,aq e,v1,sd,aq e];rfl
    .rw[ao (λh=>e ((J t).1 h))];have:=(k0.ct t).eB;rw[C0]at this⊢;exact this
   .rw[u1,u0]at f;simp only[jo,false_and,cA]at f;have h0:=k0.bD d;rw[f]at h0;have:=h0.Hm;rw[C0]at this⊢;exact this
   .rw[p0]at f0;cases o.dst<;>(simp only[S.put];rw[p0];exact f0)
   .rw[K2,u0];simp;cases o.dst<;>rfl
  |run d0 I l g0 c1 u0 u3 v3 k2 a0 j2 d1=>
   have w3:∀t,(sig c (λi=>(listed.setIfInBounds j W).getD i F) z N).bG t=if o.dst=O t then(c j).s1.bG t else if t∈ji o then .none else(sig c (λi=>listed.getD i F) z N).bG t:=λt=>by
    rw[X1];by_cases e:o.dst=O t
    .rw[aq ((wr t j).2 (.inl (by rw[l];exact e))),aq e,uQ.val,l,aq e]
    .rw[ao e];by_cases A1:t∈ji o
     .rw[aq ((wr t j).2 (.inr (by rw[g0];exact A1))),aq A1,uQ.val,l,ao e]
     .rw[ao A1,ao λh=>by
       rcases(wr t j).1 h with h|h
       .rw[l]at h;exact e h
       .rw[g0]at h;exact A1 h]
   refine .inl ⟨i2 _ a0,?_⟩;have l2:∀d∈eQ o,d∈(c j).f.bs:=λd l=>by rw[u0];exact List.mem_append_right _ l
   have Q2:(st 0).tick<=d0.tick:=ef (ja p 0 j (eM _) (hQ A)).tick I.tick;have ti:∀i,i<j->(c i).s1.tick<=d0.tick:=λi hi=>ef (wP p hi (hQ A)) I.tick;have e1:∀t,(d0.only (fW ops o) (c j).f.bs (c j).f.ks).bG t=if t∈fW ops o then(st j).bG t else .none:=λt=>by
    rw[<-I.bG];unfold S.bG S.only;simp only[hE];by_cases e:t∈fW ops o
    .simp[e]
    .simp[e]
   have o0:∀d,aF (d0.only (fW ops o) (c j).f.bs (c j).f.ks).b d=if d∈(c j).f.bs then aF (st j).b d else Y:=λd=>by rw[<-I.b];unfold S.only;simp only[hE]
   have B1:∀k,(d0.only (fW ops o) (c j).f.bs (c j).f.ks).m k=(n0.m k&&ik k (c j).f.ks):=λk=>by
    have:d0.m=n0.m:=by rw[I.m,(ja p 0 j (eM _) (hQ A)).m,e0]
    simp only[S.only,this]
   have m2:aU P E T X (d0.only (fW ops o) (c j).f.bs (c j).f.ks) q:=by
    refine k0.FM (λt=>?_) (λd=>?_) (λt s x f=>?_) (λd s x f=>?_) (λt=>?_) (λd s x f=>?_) λk _ f0=>?_
    .rw[e1];by_cases e:t∈fW ops o
     .rw[aq e];exact .inl (S1 t e).symm
     .rw[ao e];exact .inr rfl
    .rw[o0];by_cases e:d∈(c j).f.bs
     .rw[aq e];exact .inl (T1 d e).symm
     .rw[ao e];exact .inr rfl
    .simp only[S.only,hE]at f;split at f
     .exact I.zo (AH p J1 j (hQ A)) t s x f
     .cases f
    .rw[o0]at f;split at f
     .have:=HQ p K1 (hQ A) d s x f;have:=I.tick;show s<d0.tick;omega
     .cases f
    .rw[e1];split
     .exact hX I.tick (CZ p N0 (hQ A) t)
     .rfl
    .rw[o0]at f;split at f
     .exact B.mI I.tick (C6 p P0 (hQ A) d s x f)
     .cases f
    .rw[B1]at f0;simp only[aP]at f0;refine⟨by rw[p0];exact f0.1,?_⟩;rw[J2 k (ck.1 f0.2),<-I.h];rfl
   intro a w n2 R _;refine lL (λa' w' ⟨q1,g1,g2,x3⟩=>⟨q1,g1,N2,L2,?_,λk G=>P2 k G λe=>d1 (by rw[G,e])⟩) (k2 q m2 a w n2 R);refine Qi k0 g2 x3 v3 u3 (λk=>by rw[B1,p0]) (λd l=>by rw[o0,aq l,T1 d l]) (λd l=>by rw[o0,ao l]) l2 w3 u1 K2 (by rw[p0,p0]) (by rw[C0,C0]) (by rw[C0];exact hQ (c3 j A)) (C2 _) ?_ ?_ ?_ ?_
   .intro J t y3 d l l0;show eB d0.tick _=W;rw[H0]at l0⊢;rcases kK (D:=λi=>listed.getD i F) (wr:=uS c t) (v:=λi=>(c i).val t) (b0:=(st 0).bG t) (N:=N)with e|⟨i,g,y,c0,e⟩
    .rw[e];exact hX Q2 (N0 t)
    .rw[e]at l0⊢;obtain⟨C1,A3⟩:=(p i g).rg t c0;rcases rE i j with h|h|h
     .exact hX (ti i h) A3
     .subst h;grind
     .exact ((r0 i h g y (.inr J)).1 d (C1 d l0) l).elim
   .intro J d f1 x f B3 d' i1 K0;show x.Hm d0.tick=W;rw[J0]at f;rcases kK (D:=λi=>listed.getD i F) (wr:=El c d) (v:=λi=>aF (c i).s1.b d) (b0:=aF (st 0).b d) (N:=N)with e|⟨i,g,y,c0,e⟩
    .rw[e]at f;exact B.mI Q2 (P0 d f1 x f)
    .rw[e]at f;obtain⟨o2,C3⟩:=D0 d i c0;obtain⟨_,_,D1,D3⟩:=(p i g).bx o2 d f1 x f;rcases rE i j with h|h|h
     .exact B.mI (ti i h) D3
     .subst h;grind
     .exact ((r0 i h g y (.inr J)).1 d' (D1 d' K0) i1).elim
   .intro J t y3 d l;cases l0:((sig c (λi=>listed.getD i F) z N).bG t).bb d with
    |false=>rfl|true=>
     exfalso;rw[H0]at l0;rcases kK (D:=λi=>listed.getD i F) (wr:=uS c t) (v:=λi=>(c i).val t) (b0:=(st 0).bG t) (N:=N)with e|⟨i,g,y,c0,e⟩
     .rw[e,e0]at l0;have:d∈xZ ops.toList:=by exact uT (by simpa using kQ i0) l
      rw[(v2 d this).1 t]at l0;cases l0
     .rw[e]at l0;have C1:=((p i g).rg t c0).1 d l0;rcases rE i j with h|h|h
      .exact (P1 i h).2 d (by rw[c1];exact l) C1
      .subst h;grind
      .exact (r0 i h g y (.inr J)).1 d C1 (l2 d l)
   .intro J d f1 x f B3 d' i1;cases K0:x.bb d' with
    |false=>rfl|true=>
     exfalso;rw[J0]at f;rcases kK (D:=λi=>listed.getD i F) (wr:=El c d) (v:=λi=>aF (c i).s1.b d) (b0:=aF (st 0).b d) (N:=N)with e|⟨i,g,y,c0,e⟩
     .rw[e,e0]at f;have:d'∈xZ ops.toList:=by exact uT (by simpa using kQ i0) i1
      rw[(v2 d' this).2 d f1 x f]at K0;cases K0
     .rw[e]at f;obtain⟨o2,C3⟩:=D0 d i c0;obtain⟨_,_,D1,_⟩:=(p i g).bx o2 d f1 x f;rcases rE i j with h|h|h
      .exact (P1 i h).2 d' (by rw[c1];exact i1) (D1 d' K0)
      .subst h;grind
      .exact (r0 i h g y (.inr J)).1 d' (D1 d' K0) (l2 d' i1)
  |ea d0 I l g0 c1 u0 v1 k2 a0 j2 d1=>
   refine .inl ⟨i2 _ a0,?_⟩;have e1:∀t,(d0.only (fW ops o) (c j).f.bs (c j).f.ks).bG t=if t∈fW ops o then(st j).bG t else .none:=λt=>by
    rw[<-I.bG];unfold S.bG S.only;simp only[hE];by_cases e:t∈fW ops o
    .simp[e]
    .simp[e]
   have o0:∀d,aF (d0.only (fW ops o) (c j).f.bs (c j).f.ks).b d=if d∈(c j).f.bs then aF (st j).b d else Y:=λd=>by rw[<-I.b];unfold S.only;simp only[hE]
   have B1:∀k,(d0.only (fW ops o) (c j).f.bs (c j).f.ks).m k=(n0.m k&&ik k (c j).f.ks):=λk=>by
    have:d0.m=n0.m:=by rw[I.m,(ja p 0 j (eM _) (hQ A)).m,e0]
    simp only[S.only,this]
   have m2:aU P E T X (d0.only (fW ops o) (c j).f.bs (c j).f.ks) q:=by
    refine k0.FM (λt=>?_) (λd=>?_) (λt s x f=>?_) (λd s x f=>?_) (λt=>?_) (λd s x f=>?_) λk _ f0=>?_
    .rw[e1];by_cases e:t∈fW ops o
     .rw[aq e];exact .inl (S1 t e).symm
     .rw[ao e];exact .inr rfl
    .rw[o0];by_cases e:d∈(c j).f.bs
     .rw[aq e];exact .inl (T1 d e).symm
     .rw[ao e];exact .inr rfl
    .simp only[S.only,hE]at f;split at f
     .exact I.zo (AH p J1 j (hQ A)) t s x f
     .cases f
    .rw[o0]at f;split at f
     .have:=HQ p K1 (hQ A) d s x f;have:=I.tick;show s<d0.tick;omega
     .cases f
    .rw[e1];split
     .exact hX I.tick (CZ p N0 (hQ A) t)
     .rfl
    .rw[o0]at f;split at f
     .exact B.mI I.tick (C6 p P0 (hQ A) d s x f)
     .cases f
    .rw[B1]at f0;simp only[aP]at f0;refine⟨by rw[p0];exact f0.1,?_⟩;rw[J2 k (ck.1 f0.2),<-I.h];rfl
   have f:=k2 q m2;intro a w n2 E3 G1;exact lL (λa' w' ⟨q1,g1,g2⟩=>g2.elim) (f a w n2 E3 G1)
  |rest l g0 c1 u0 v1 j2 y1 d1=>obtain⟨k,G,h0⟩:=y1;have g:=zg A0 (qD h0) j0;rw[n1 k G]at g;cases g
 .
  intro listed q ⟨hsz,A0,k0,n1⟩ y1;have all:∀i,i<N->listed.getD i F=W:=by
   intro i;induction i using Nat.strongRecOn with
   |ind i H3=>
    intro hi;cases C:listed.getD i F with
    |true=>rfl|false=>
     exfalso;have j1:i<ops.size:=by grind
     have:i∈Region.ready .any ops listed:=mem_ready.2 ⟨V9 (by grind) C,ops[i],by simp[j1],λe p2 h0=>H3 e.on ((hY y0 (by simp[j1])).1 e p2 h0) (by have:=(hY y0 (k:=i) (by simp[j1])).1 e p2 h0;omega)⟩
     grind
  have I3:E0=Y:=by
   cases x1:E0 with
   |none=>rfl|some k=>have g:=all k (by have:=G0 k x1;omega);rw[n1 k x1]at g;cases g
  have x0:=bq N;have J3:∀t,(st N).bG t=(sig c (λi=>listed.getD i F) z N).bG t:=λt=>by rw[H0,wN p t N x0];exact hG λi hi _=>(all i hi).symm
  have L3:∀d,aF (st N).b d=aF (sig c (λi=>listed.getD i F) z N).b d:=λd=>by rw[J0,wO p d N x0];exact hG λi hi _=>(all i hi).symm
  have N3:∀k,U.get k (st N).h=U.get k (sig c (λi=>listed.getD i F) z N).h:=λk=>by rw[m1,HP p k N x0];exact hG λi hi _=>(all i hi).symm
  have q2:=ja p 0 N (eM _) x0;rw[e0]at q2;refine G1 (st N) q ?_ (t2.trans q2) (H1 I3);exact k0.FM (λt=>.inl (J3 t)) (λd=>.inl (L3 d)) (AH p J1 N x0) (λd s x f=>HQ p K1 x0 d s x f) (λt=>CZ p N0 x0 t) (λd s x f=>C6 p P0 x0 d s x f) λk _ f0=>⟨by rw[p0,<-q2.m];exact f0,N3 k⟩
 .
  refine⟨by simp[I1],λk o G B2 e p2 h0=>?_,?_,λk G=>by have:=G0 k G;simp[my];grind⟩
  .have j1:k<ops.size:=(rr.1 G).1;simp[j1]at B2
  .rw[J6 N λi hi=>by have:i<ops.size:=M
                     simp[this]]
   exact e3
end
section
variable{P:ai}{E:cd}{U:cp}{T:dt U.C}{X:gy U}(L:cD U T)
include L
theorem Td(d:P.follows .mixedOrders=W){a:HL U.C ps->V (jm U ea (HL U.C (rs.map RK.ty)))}(b:bJ P E T X)(e:P.funcs[f]?=O fn)(g:(fn.name== "runtime.NumGoroutine")=F)(h:fn.body=O c)(i:ps.length<=fn.ntmps)
  (j:eJ fn.ntmps c=W) (k:mH fn.ntmps fn.results.toList=W) (h0:U.C 0) (l:∀x,Fo X ps rs ea esc fn.results.toList c hint x h0=a x):nu P E T f ps rs ea (.pure a):=
 V7 L b e g h i j k h0 (λ_ _ _ _=>kl L d (sW pf (λ_=>rfl) b)) l
theorem ZH(d:P.follows .mixedOrders=W){a:HL U.C ps->U.C 0->V (jm U ea (HL U.C (rs.map RK.ty))×U.C 0)}(b:bJ P E T X)(e:P.funcs[f]?=O fn)(g:(fn.name== "runtime.NumGoroutine")=F)(i:fn.body=O c)(j:ps.length<=fn.ntmps)
  (k:eJ fn.ntmps c=W) (l:mH fn.ntmps fn.results.toList=W) (m:∀x h,Jz X ps rs ea esc fn.results.toList c hint x h=a x h):nu P E T f ps rs ea (.st a):=
 abv L b e g i j k l (λA n _ _ _ _=>kl L d (sW (pg A n) (λ_=>rfl) b)) m
end
end Go.X
namespace Go.Ev
open Go
variable{i bm since:Nat}{seen:Z Nat}{es:Z (AV×AV)}{o:aC}{c:V (Z Nat×Nat)}
section
variable{P:ai}{E:cd}{w0:af}{I0:aA}{n:Nat}{s:St}{a:Act}{w w':af}{I:aA}{be:Nat->V Nat}
structure MG(E:cd)(w0 w:World)(I:aA)(be:Nat->Option Nat)(s:St)(B:Nat):Prop where
 new:w0.heap.size<=B
 lt:B<w.heap.size
 mem:∀p,I p->p.block≠B
 cf:¬E.cf w B
 box:∀d,s.b d≠Y->be d≠O B
 ob:∀j,s.a j≠Y->I.ar j≠O B
theorem aJ.Yo (h:aJ P E w0 I0 n s a w I be) {B:Nat} (c:MG E w0 w I be s B) (A:w'.os=w.os) (C:w'.tape=w.tape) (D:w'.output=w.output) (hsz:w.heap.size<=w'.heap.size)
  (l:∀k,k≠B->k<w.heap.size->w'.heap[k]?=w.heap[k]?) (q:∀B',gZ w w' B'):aJ P E w0 I0 n s a w' I be:=by
 have G:=h.since.step (I':=I) A C D hsz (λk=>k=B) (λk f o=>l k o f) (λk f=>by subst f;exact ⟨.inl c.new,c.cf⟩) q (λ_ h=>h) rfl (λ_ h=>.inl h);have m:dK w w' I I:=.world (λp v r hv=>by rw[dn (l p.block (c.mem p r) (h.since.lt p r))];exact hv) q;have u:∀d B',s.b d≠Y->be d=O B'->w'.heap[B']?=w.heap[B']?:=λd B' g j=>l B' (λe=>c.box d g (by rw[j,e])) (h.bR d B' g j).2.1;have g:∀d,s.g d<s.g d∨(s.g d=s.g d/\fy P w w' be be s.b s.b d):=λd=>.inr ⟨rfl,.ig rfl rfl (λB' H=>u d B' H)⟩;have K:∀b,E.cf w' b->E.cf w b:=(E.iU w w' h.since.hS (λb y=>l b (λe=>c.cf (e▸y)) (E.lt w b h.since.hS y))).2;refine⟨G,h.size,h.defers.mono m,λt J=>(h.ct t J).eP m g,λd x z=>(h.bD d x z).eP m g rfl (λB'=>u d B' (by simp[z])),h.inj,λd B' g j=>?_,h.ru,h.gi m rfl (λk=>k=B) (λi B' hi j e=>c.ob i hi (by rw[j,e])) (λk f o=>l k o f) hsz (λk f=>by subst f;exact c.cf) (λ_ h=>.inl h) (λ_ h=>.inl h)⟩;obtain⟨q1,L,N,Q⟩:=h.bR d B' g j
 grind
theorem aJ.aer (h:aJ P E w0 I0 n s a w I be) {B:Nat} (c:MG E w0 w I be s B) (d:w'.os=w.os) (e:w'.tape=w.tape) (f:w'.output=w.output) (hsz:w.heap.size<=w'.heap.size)
  (g:∀k,k≠B->k<w.heap.size->w'.heap[k]?=w.heap[k]?) (i:∀cur t b,w.heap[B]?≠O (.cells cur t b)):aJ P E w0 I0 n s a w' I be:=
 h.Yo c d e f hsz g λB' cur t b j=>by grind
def cd.wQ (E:cd) (B bm since:Nat) (seen:Z Nat) (i:Nat) (x:Ob):cd where
 hS:=λw=>E.hS w/\¬E.cf w B/\w.heap[B]?=O (.mapIter (O bm) since seen.toArray since)
 cf:=λw b=>E.cf w b∨b=B
 iU:=λw w' ⟨c,d,e⟩ a=>by
  obtain⟨g,h⟩:=E.iU w w' c λb f=>a b (.inl f)
  grind
 lt:=λw b ⟨c,d,e⟩ a=>by
  rcases a with a|rfl
  .exact E.lt w b c a
  grind
 qp:=E.qp
 cT:=E.cT
 df:=E.df
 ro:=λj=>if j=i then O (x,bm)else Y
 it:=λ_=>B
theorem aJ.enter (h:aJ P E w0 I0 n s a w I be) {B:Nat} {x:Ob} (g:MG E w0 w I be s B) (z:w.heap[B]?=O (.mapIter (O bm) since seen.toArray since)) (hi:s.a i=O x) (H:I.ar i=O bm):
  aJ P (E.wQ B bm since seen i x) w0 I0 n s a w I be:=by
 have c:=h.since;refine⟨⟨c.os,c.tape,c.output,c.size,λk A f C=>c.block k A (λD=>f (.inl D)) C,λb m=>?_,⟨c.hS,g.cf,z⟩,c.oO,c.ar,c.IY,c.shape,c.new,c.lt,λp t f=>?_⟩,h.size,h.defers,h.ct,h.bD,h.inj,λd B' u l=>?_,h.ru,⟨h.aZ.h7,h.aZ.inj,λj B' v l=>?_,h.aZ.un,λj y J=>?_⟩⟩
 .rcases m with m|rfl
  .exact (c.cf b m).imp .inl id
  .exact .inr g.new
 .rcases f with f|f
  .exact c.off p t f
  .exact g.mem p t f
 .obtain ⟨q1,o,q,r⟩:=h.bR d B' u l;refine⟨q1,o,q,λf=>f.elim r λe=>g.box d u (by rw[l,e])⟩
 .obtain ⟨q1,o,q,r,G⟩:=h.aZ.bR j B' v l;exact⟨q1,o,q,λf=>f.elim r λe=>g.ob j v (by rw[l,e]),G⟩
 grind [cd.wQ,aN]
theorem aJ.zI {B:Nat} {x:Ob} (h:aJ P (E.wQ B bm since seen i x) w0 I0 n s a w I be) (G:w0.heap.size<=B) (H:∀j,E.ro j=Y):aJ P E w0 I0 n s a w I be:=by
 have c:=h.since;refine⟨⟨c.os,c.tape,c.output,c.size,λk r f t=>c.block k r (λu=>u.elim f λe=>M) t,λb v=>?_,c.hS.1,c.oO,c.ar,c.IY,c.shape,c.new,c.lt,λp z f=>c.off p z (.inl f)⟩,h.size,h.defers,h.ct,h.bD,h.inj,λd B' A g=>?_,h.ru,⟨h.aZ.h7,h.aZ.inj,λj B' C g=>?_,h.aZ.un,λj y J=>?_⟩⟩
 .rcases c.cf b (.inl v)with(q|q)|q
  grind
  grind
  grind
 .obtain ⟨q1,l,m,o⟩:=h.bR d B' A g;exact⟨q1,l,m,λf=>o (.inl f)⟩
 .obtain ⟨q1,l,m,o,D⟩:=h.aZ.bR j B' C g;exact⟨q1,l,m,λf=>o (.inl f),D⟩
 grind
def aJ.lone {B:Nat} {x:Ob} (h:aJ P (E.wQ B bm since seen i x) w0 I0 n s a w I be) (c:w0.heap.size<=B):MG E w0 w I be s B:=⟨c,(rr.1 h.since.hS.2.2).1,λp f e=>h.since.off p f (.inr e),h.since.hS.2.1,λd g b=>(h.bR d B g b).2.2.2 (.inr rfl),λj k b=>(h.aZ.bR j B k b).2.2.2.1 (.inr rfl)⟩
theorem aJ.ZI (h:aJ P E w0 I0 n s a w I be) (y:∀j,E.ro j=Y) (hi:s.a i=O (.map es c)):
  ∃bm d clock,I.ar i=O bm/\w.heap[bm]?=O (.map d clock)/\aJ P E w0 I0 n {s with a:=b8 s.a i (O (.map es (O (d.toList.map (·.born),clock))))} a w I be:=by
 obtain⟨bm,g,d,clock,q1,l,z,m,o⟩:=h.aZ.h7 i _ hi;have f:∀j,b8 s.a i (O (.map es (O (d.toList.map (·.born),clock)))) j≠Y->s.a j≠Y:=λj b=>by grind [aO]
 refine⟨bm,d,clock,g,q1,h.since,h.size,h.defers,h.ct,h.bD,h.inj,h.bR,h.ru,⟨λj x b=>?_,λj k B q r t u=>h.aZ.inj j k B (f j q) (f k r) t u,λj B b v=>h.aZ.bR j B (f j b) v,h.aZ.un,λj x b=>by grind⟩⟩;by_cases e:j=i
 .subst e;simp only[ch,aN]at b;subst b;exact⟨bm,g,d,clock,q1,l,λp A=>by grind,m,o⟩
 .simp only[aO _ _ e]at b;exact h.aZ.h7 j x b
theorem J8{B:Nat}{bs:Z Nat}(h:aJ P (E.wQ B bm since seen i (.map es (O (bs,since)))) w0 I0 n s a w I be):
  ∃b:Array MapEntry,w.heap[bm]?=O (.map b since)/\b.toList.map (·.born)=bs/\b.size=es.length/\(∀x∈b.toList,x.born<since)/\(b.toList.map (·.born)).Nodup/\∀(j:Nat)(e:AV×AV),es[j]?=O e->∃x,b[j]?=O x/\cy w I x.key e.1/\cy w I x.val e.2:=by
 obtain⟨d,m⟩:=h.aZ.ro i (.map es (O (bs,since)),bm) (by simp[cd.wQ]);obtain⟨B',c,b,clock,q1,o,p,q,r⟩:=h.aZ.h7 i _ d;rw[m]at c;injection c with c;subst c;obtain⟨e1,f⟩:=p _ rfl;simp only at e1 f;subst f;refine⟨b,q1,e1,o,λx t=>?_,?_,r⟩
 grind [kR]
 .refine Ly.2 λj k g l u e=>?_;simp only[iT,EO]at g l;simp only[List.getElem_map,Array.getElem_toList]at e;have d:=(q j b[j] (by simp[g])).2 k b[k] (by simp[l]) e.symm;omega
theorem ZJ{a:Array MapEntry}{bs:Z Nat}(h:a.toList.map (·.born)=bs){e:MapEntry}(b:e∈a.toList):∃j:Nat,a[j]?=O e/\bs[j]?=O e.born:=by grind [kR]
theorem FO{x:ah}(b0:o.op=.next x F){B:Nat}{bs:Z Nat}(h:aJ P (E.wQ B bm since seen i (.map es (O (bs,since)))) w0 I0 n s a w I be)(m:w0.heap.size<=B)(G:∀j,E.ro j=Y)
  (g:a.eval x=.pointer (O ⟨B,0,Y⟩)):
  ((∀b∈bs,b∈seen)/\(execOp a.eval o).run P w=.ok (.value (.tuple #[.bool F])) w)∨
  ∃(j b:Nat)(c:af)(k v:ag),bs[j]?=O b/\b∉seen/\(execOp a.eval o).run P w=.ok (.value (.tuple #[.bool W,k,v])) c/\aJ P (E.wQ B bm since (seen++[b]) i (.map es (O (bs,since)))) w0 I0 n s a c I be:=by
 obtain⟨f,hm,H,hsz,q,c0,d0⟩:=J8 h;have r:=h.since.hS.2.2;have d:=h.lone m;have J:(execOp a.eval o).run P w=((Instr.next (.pointer (O ⟨B,0,Y⟩)) F o.type).run P w).andThen λv w=>.ok (.value v) w:=by grind [execOp,cx,cW]
 have e0:bm≠B:=λe=>by grind
 rw[J];simp only[Instr.next,getObj,cx,Sem.run,r,hm,Result.andThen,next_test_false seen.toArray f since since q (bq _),jo,cA];have p:∀x∈(Array.filter (λe=>!seen.toArray.contains e.born) f).toList,x∈f.toList/\x.born∉seen:=λx g=>by grind
 have u:(Array.filter (λe=>!seen.toArray.contains e.born) f).size=0->∀b∈bs,b∈seen:=λh0 b y=>by grind
 generalize Array.filter (λe=>!seen.toArray.contains e.born) f=L at p u⊢;have f0:∀x∈L.toList,x.born<since:=λx g=>q x (p x g).1;have K:L.filter (λx=>decide (x.born<since))=L:=Array.filter_eq_self.2 (λx g=>by grind);have e2:L.filter (λx=>decide (x.born≥since))=#[]:=by simp_all
 simp only[K,e2,Y8];by_cases h0:L.size=0
 .left;refine⟨u h0,?_⟩;have:L=#[]:=Y9 h0;subst this;simp[choose,Sem.run,Question.forced]
 .right;have N:L.isEmpty=F:=by grind
  simp only[N,jo,cA,Vx,Array.size_map];have Q:∃(j:Nat)(c:af),j<L.size/\c.heap=w.heap/\c.os=w.os/\c.output=w.output/\c.tape=w.tape/\(choose (Question.mapNext L.size)).run P w=.ok j c:=by
   by_cases l:L.size<=1
   .exact ⟨0,w,M,rfl,rfl,rfl,rfl,by simp[choose,Sem.run,Question.forced,l]⟩
   .exact ⟨_,w.drew,ui _ M,rfl,rfl,rfl,rfl,by simp only[choose,Sem.run,Question.forced,aV,l,cA,Question.cut];rfl⟩
  obtain⟨j,c,g0,z,a2,a3,a4,i0⟩:=Q;have R:L[j]∈L.toList:=aH;obtain⟨S,m2⟩:=p _ R;obtain⟨T,m3,m4⟩:=ZJ H S;have j0:(setObj B (.mapIter (O bm) since (seen.toArray.push L[j].born) since)).run P c=.ok () {c with heap:=c.heap.setIfInBounds B (.mapIter (O bm) since (seen.toArray.push L[j].born) since)}:=by simp only[setObj,Sem.run,z,r]
  refine⟨T,L[j].born,{c with heap:=c.heap.setIfInBounds B (.mapIter (O bm) since (seen.toArray.push L[j].born) since)},L[j].key,L[j].val,m4,m2,?_,?_⟩;simp_all
  .have k0:=d.lt;have A:=h.zI m G;have l0:(c.heap.setIfInBounds B (.mapIter (O bm) since (seen.toArray.push L[j].born) since))[B]?=O (.mapIter (O bm) since (seen.toArray.push L[j].born) since):=by grind
   have C:∀k,k≠B->(c.heap.setIfInBounds B (.mapIter (O bm) since (seen.toArray.push L[j].born) since))[k]?=w.heap[k]?:=λk D=>by grind
   have U:=A.aer (w':={c with heap:=c.heap.setIfInBounds B (.mapIter (O bm) since (seen.toArray.push L[j].born) since)}) d a2 a4 a3 (by simp[z]) (λk D _=>C k D) (λcur t m0 e=>by grind);obtain⟨X,a0⟩:=h.aZ.ro i (.map es (O (bs,since)),bm) (by simp[cd.wQ]);refine U.enter ⟨m,by grind,d.mem,λl=>?_,d.box,d.ob⟩ (by grind) X a0;have:=(E.iU w {c with heap:=c.heap.setIfInBounds B (.mapIter (O bm) since (seen.toArray.push L[j].born) since)} A.since.hS (λb y=>C b (λe=>d.cf (e▸y)))).2 B l;exact d.cf this
theorem MH{x:ah}(d:o.op=.entry x){B:Nat}{bs:Z Nat}{j b:Nat}(h:aJ P (E.wQ B bm since (seen++[b]) i (.map es (O (bs,since)))) w0 I0 n s a w I be)(y:bs[j]?=O b)
  (f:a.eval x=.pointer (O ⟨B,0,Y⟩)):
  ∃k v e,(execOp a.eval o).run P w=.ok (.value (.tuple #[k,v])) w/\es[j]?=O e/\cy w I k e.1/\cy w I v e.2:=by
 obtain⟨c,hm,z,hsz,A,C,g⟩:=J8 h;have l:=h.since.hS.2.2;have D:j<c.size:=by grind
 have m:c[j].born=b:=by grind
 obtain⟨p,q1,q,r⟩:=g j es[j] aH;have t:p=c[j]:=by grind
 subst t;refine⟨c[j].key,c[j].val,es[j],?_,aH,q,r⟩;have u:c.find? (·.born==b)=O c[j]:=by
  rw[<-Array.find?_toList,<-m]
  grind [find_born]
 simp only[execOp,d,f,Instr.entry,getObj,cx,Sem.run,l,hm,Result.andThen];simp[u,hm,Sem.run,Result.andThen]
def MI{t p vt:an}{x:ah}(q:o.op=.range t x)(v:ba n o=W)(y:P.underlying t=O (.map p vt))(h:aJ P E w0 I0 n s a w I be)(z:∀j,E.ro j=Y)
  (A:s.ev x=.val (.mp i)) (hi:s.a i=O (.map es c)):
  ∃(bm since:Nat)(bs:Z Nat)(r:af),bs.length=es.length/\bs.Nodup/\(execOp a.eval o).run P w=.ok (.value (.pointer (O ⟨w.heap.size,0,Y⟩))) r/\w0.heap.size<=w.heap.size/\aJ P (E.wQ w.heap.size bm since [] i (.map es (O (bs,since)))) w0 I0 n {s with a:=b8 s.a i (O (.map es (O (bs,since))))} a r I be:=by
 have l:=aM v (x:=x) (by simp[q,Op.operands]) h;rw[A]at l;obtain⟨B,m,e1⟩:=wa (show cy w I (a.eval x) (.mp i)from l);obtain⟨bm,b,clock,d,hm,C⟩:=h.ZI z hi;rw[m]at d;injection d with d;subst d;obtain⟨B',f,R,S,q1,D,T,G,U⟩:=h.aZ.h7 i _ hi;rw[m]at f;injection f with f;subst f;rw[hm]at q1;simp only[aN,Obj.map.injEq]at q1;obtain⟨rfl,rfl⟩:=q1;obtain⟨H,J,⟨X,b2,K,L,N⟩,a0,Q⟩:=C.fresh (w':=w.alloc (.mapIter (O B) clock #[] clock)) (o:=.mapIter (O B) clock #[] clock) rfl rfl rfl rfl;refine⟨B,clock,b.toList.map (·.born),_,by simp[D],?_,?_,h.since.size,H.enter ⟨h.since.size,b2,K,L,N,λj g=>Q _ rfl j g⟩ J (ch _ _ _) m⟩
 .refine Ly.2 λj k g u b0 e=>?_;simp only[iT,EO]at g u;simp only[List.getElem_map,Array.getElem_toList]at e;have l:=(G j b[j] (by simp[g])).2 k b[k] (by simp[u]) e.symm;omega
 .simp only[execOp,q,e1,cx,run_range_map w t p vt B b clock y hm,Result.andThen];rfl
end
end Go.Ev
namespace Go.X
open Go Go.Ev
variable{c:bT}{ti i n:Nat}{a:Act}{ops:Array aC}{o:aC}{it:aa}{Q:e7->St->Prop}{Zloc:AV->St->Prop}
section
variable{A σ β:Type}
open Classical in
noncomputable def oE (n:Nat) (f:Nat->V β):V β:=if h:∃r,∀i,i<n->f i=O r then O (Classical.choose h)else Y
theorem tU{f:Nat->V β}{r:β}(h:oE n f=O r)(i:Nat)(hi:i<n):f i=O r:=by
 unfold oE at h;split at h
 grind
 .cases h
theorem J9{f:Nat->V β}{r:β}(b:0<n)(h:∀i,i<n->f i=O r):oE n f=O r:=by
 unfold oE;split
 grind
 .rename_i a;exact absurd ⟨r,h⟩ a
noncomputable def lf (step:A->σ->(σ->V β)->V β) (done:σ->V β):Nat->Z A->σ->V β
 |0,_,st=>done st|n+1,left,st=>oE left.length λi=>(left[i]?).bind λx=>step x st λa=>lf step done n (left.eraseIdx i) a
end
mutual
def R.pl {C:Nat->Type} (it:aa):R C->aa
 |.val t _=>fD t|.gw rs=>Wb it rs
 |.fn _ rs=>Wb it rs|.sN rs=>Wb it rs
 |.nF r=>r.pl it|.agg _ rs=>Wb it rs
 |.mc _ rs=>Wb it rs|.it _=>it
 |_=>W
def Wb{C:Nat->Type}(it:aa):Z (R C)->aa
 |[]=>W|r::rs=>r.pl it&&Wb it rs
end
def ph{C:Nat->Type}{it:aa}:∀{rs:Z (R C)},Wb it rs=W->∀r∈rs,r.pl it=W
 |[],_,r,a=>by cases a
 |x::rs,h,r,a=>by
  simp only[Wb,aP]at h;rcases fb.1 a with rfl|a
  .exact h.1
  .exact ph h.2 r a
def C8{C:Nat->Type}:R C->aa
 |.it 0=>W|_=>F
def HS{C:Nat->Type}{r:R C}(h:C8 r=W):r=.it 0:=by
 unfold C8 at h;split at h
 .rfl
 .cases h
def B.pl {C:Nat->Type} (it:aa):B C->aa
 |.cells _ rs=>Wb it rs|.br _ _ _=>W
def S.pl {C:Nat->Type} (it:aa) (s:S C):aa:=s.r.all (λe=>e.2.2.pl it)&&s.b.all λe=>e.2.2.pl it
def gy.fix {U:cp} (X:gy U):gy U:={X with wr:=F,lB:=λ_=>[],Zf:=λ_=>Y}
structure RP where
 id1:Nat
 ops:Array Oper
 b:Nat
 id2:Nat
 nx:Array Oper
 tc:Nat
 b2:Nat
 id3:Nat
 en:Array Oper
 body:Code
variable{p:RP}
def RP.code (p:RP):bT:=.seq (.region p.id1 p.ops F) (.block p.b (.loop (.seq (.region p.id2 p.nx F) (.seq (.cond (.tmp p.tc) .skip (.exit p.b)) (.block p.b2 (.seq (.region p.id3 p.en F) p.body))))))
def FP:bT->V (bT×bT)
 |.seq a b=>O (a,b)|_=>Y
def se:bT->V (Nat×Array aC)
 |.region id ops F=>O (id,ops)|_=>Y
def AI:bT->V (Nat×bT)
 |.block id a=>O (id,a)|_=>Y
def MJ:bT->V bT
 |.loop a=>O a|_=>Y
def MK:bT->V (Nat×Nat)
 |.cond (.tmp t) .skip (.exit b)=>O (t,b)|_=>Y
theorem qR{r:bT×bT}(h:FP c=O r):c=.seq r.1 r.2:=by unfold FP at h;grind
theorem pG{r:Nat×Array aC}(h:se c=O r):c=.region r.1 r.2 F:=by unfold se at h;grind
theorem wR{r:Nat×bT}(h:AI c=O r):c=.block r.1 r.2:=by unfold AI at h;grind
theorem Ka{r:bT}(h:MJ c=O r):c=.loop r:=by unfold MJ at h;grind
theorem Kb{r:Nat×Nat}(h:MK c=O r):c=.cond (.tmp r.1) .skip (.exit r.2):=by unfold MK at h;grind
def C9(c:bT):V RP:=(FP c).bind λb=>(se b.1).bind λd=>(AI b.2).bind λa=>(MJ a.2).bind λj=>(FP j).bind λe=>(se e.1).bind λf=>(FP e.2).bind λc3=>(MK c3.1).bind λt=>(AI c3.2).bind λg=>(FP g.2).bind λh=>(se h.1).bind λi=>bif Nat.beq t.2 a.1 then O ⟨d.1,d.2,a.1,f.1,f.2,t.1,g.1,i.1,i.2,h.2⟩else Y
def Kc(h:C9 c=O p):c=p.code:=by unfold C9 at h;obtain⟨o,b,h⟩:=bind_some h;obtain⟨q,d,h⟩:=bind_some h;obtain⟨r,e,h⟩:=bind_some h;obtain⟨s,f,h⟩:=bind_some h;obtain⟨u,g,h⟩:=bind_some h;obtain⟨v,i,h⟩:=bind_some h;obtain⟨c3,j,h⟩:=bind_some h;obtain⟨t,k,h⟩:=bind_some h;obtain⟨w,l,h⟩:=bind_some h;obtain⟨x,m,h⟩:=bind_some h;obtain⟨y,n,h⟩:=bind_some h;obtain⟨a,h⟩:=az h;have a:=cC a;injection h with h;subst h;rw[qR b,pG d,wR e,Ka f,qR g,pG i,qR j,Kb k,wR l,qR m,pG n,a];rfl
structure RO where
 e:TypeId
 x:Operand
 ti:Nat
 tn:Nat
 te:Nat
def OO:Z aC->V (an×ah×Nat)
 |[{dst:=O t,op:=.range e x,guard:=Y,..}]=>O (e,x,t)|_=>Y
def Te:Z aC->V (Nat×Nat)
 |{dst:=O t,op:=.next (.tmp i) F,guard:=Y,..}::_=>O (i,t)|_=>Y
def OP:Z aC->V (Nat×Nat)
 |{dst:=O t,op:=.entry (.tmp i),guard:=Y,..}::_=>O (i,t)|_=>Y
def Da:Z aC->Z aC
 |[]=>[]|[o]=>[o]
 |_::o::l=>Da (o::l)
def lg:Z aC->Z aC
 |[]=>[]|[_]=>[]
 |o::a::l=>o::lg (a::l)
def RP.ro (p:RP):V RO:=(OO (Da p.ops.toList)).bind λr=>(Te p.nx.toList).bind λx=>(OP p.en.toList).bind λe=>bif Nat.beq x.1 r.2.2&&Nat.beq e.1 r.2.2 then O ⟨r.1,r.2.1,r.2.2,x.2,e.2⟩else Y
section
variable{U:cp}{α:Type}(X:gy U)(kx:o8 U->S U.C->V α)(esc:Z (Nat×Nat))
def ng(ti:Nat)(s:S U.C):S U.C:={s with r:=bu s.r ti}
def ZK(ti:Nat)(p:o8 U)(s2:S U.C):V α:=bif (ng ti s2).pl F then kx p (ng ti s2)else Y
def HU(ti:Nat)(k:Ex->S U.C->V α)(e:Ex)(s2:S U.C):V α:=bif (ng ti s2).pl F then k e (ng ti s2)else Y
def FQ(j:Sh)(a:S U.C)(rec:HL U.C j.Zr×HT U.C j.h->V α)(b:S U.C):V α:=match j.pZ a b with
 |some x=>rec x|none=>Y
noncomputable def tV (p:RP) (o:RO) (j:Sh) (f:e9) (a:S U.C) (k:Ex->S U.C->V α) (c vt:Ty) (d:bL U.C c×bL U.C vt) (st:HL U.C j.Zr×HT U.C j.h) (rec:HL U.C j.Zr×HT U.C j.h->V α):V α:=
 bif (j.load a st).pl W&&C8 ((j.load a st).bG o.ti)then mE X.fix (ZK kx o.ti) esc p.nx p.nx.toList.tail ((j.load a st).put (O o.tn) (.gw [.val .bool W,.none,.none])) λs2=>match zi (s2.ev (.tmp p.tc))with
  |some W=>bif C8 (s2.bG o.ti)then mE X.fix (ZK kx o.ti) esc p.en p.en.toList.tail (s2.put (O o.te) (.gw [.val c d.1,.val vt d.2])) λg=>
    gX X.fix (ZK kx o.ti) esc p.body f g λe b=>match e with
     |.normal=>FQ j a rec b|.exit id=>bif Nat.beq id p.b2 then FQ j a rec b else bif Nat.beq id p.b then HU o.ti k .normal b else HU o.ti k (.exit id) b
     |.ret=>HU o.ti k .ret b
   else Y
  |_=>Y
 else Y
noncomputable def zJ (p:RP) (o:RO) (j:Sh) (a:S U.C) (k:Ex->S U.C->V α) (st:HL U.C j.Zr×HT U.C j.h):V α:=
 bif (j.load a st).pl W&&C8 ((j.load a st).bG o.ti)then mE X.fix (ZK kx o.ti) esc p.nx p.nx.toList.tail ((j.load a st).put (O o.tn) (.gw [.val .bool F])) λs2=>match zi (s2.ev (.tmp p.tc))with
  |some F=>HU o.ti k .normal s2|_=>Y
 else Y
noncomputable def Tf (p:RP) (j:Sh) (c:e9) (s:S U.C) (k:Ex->S U.C->V α):V α:=
 match p.ro with
 |none=>Y|some o=>
  mE X kx esc p.ops (lg p.ops.toList) s λs=>match X.ty o.e,s.ev o.x with
   |some (.mp d),.val (.mp m) q=>bif Nat.beq d m&&(X.wr&&s.pl F)then match U.ak m with
    |.map a vt=>match maps U m a vt s with
     |some l=>Option.bind (α:=Nat) q λi=>(l[i]?).bind λb=>
      bif j.tQ X.fix&&(s.put (O o.ti) (.it 0)).pl W then match j.pZ (s.put (O o.ti) (.it 0)) (s.put (O o.ti) (.it 0))with
       |some e=>lf (tV X kx esc p o j c (s.put (O o.ti) (.it 0)) k a vt) (zJ X kx esc p o j (s.put (O o.ti) (.it 0)) k) b.length b e|none=>Y
      else Y
     |none=>Y
    |_=>Y
    else Y
   |_,_=>Y
end
section
variable{P:ai}{E E':cd}{U:cp}{T:dt U.C}{X:gy U}{w0:af}{I0:aA}{n:Nat}{o:aC}{s:S U.C}{q:St}{α:Type}{out:α}{fz:aa}{kx:o8 U->S U.C->V α}{K:S U.C->V α}{esc:Z (Nat×Nat)}
variable(L:cD U T)
include L in
theorem jA(m:bJ P E T X){sB:S U.C}(y:(∃k,sB.m k=W)->E.cT=F){ops:Array aC}(z:ju n ops=W){R:Exit->Act->af->Prop}{rest:Z Nat}(A:∀q a w,QE P E T X sB K out q->ko P E w0 I0 n q a w->wpOps P ops R rest a w)
  (B:∀av v q a w I be,XE P E T X sB kx out av q->aJ P E w0 I0 n q a w I be->cy w I v av->R (.panic [{v:=v,recovered:=F}]) a w):
  ∀(l:Z aC)(i:Nat)(s:S U.C)(q:St)(a:Act)(w:af),(∀j o,l[j]?=O o->ops[i+j]?=O o)->bw sB s->mE X kx esc ops l s K=O out->aU P E T X s q->ko P E w0 I0 n q a w->
  wpOps P ops R (List.range' i l.length++rest) a w
 |[],i,s,q,a,w,_,hm,h,c,d=>A q a w ⟨s,c,hm,h⟩ d|o::l,i,s,q,a,w,f0,hm,h,c,d=>by
  have g0:ops[i]?=O o:=by simpa using f0 0 o rfl
  have D:∀j b0,l[j]?=O b0->ops[(i+1)+j]?=O b0:=λj b0 h0=>by have:=f0 (j+1) b0 (by grind);grind
  have i0:=rB.1 z o (kQ g0);simp only[aP]at i0;simp only[ie,List.range'_succ,EU,wpOps,g0];have j0:∀s:S U.C,bw sB s->aU P E T X s q->Ju X kx esc o s (λs=>mE X kx esc ops l s K)=O out->o.wp P a w (wpOps P ops R (List.range' (i+1) l.length++rest)) R:=λs hm c h=>by
   cases OC (w0:=w0) (I0:=I0) L m (by rw[hm.m];exact y) i0.1 h with
   |one s1 e0 G H=>exact lL (λa' w' ⟨J,g1,g2⟩=>jA m y z A B l (i+1) s1 J a' w' D (hm.trans G) e0 g2.1 g1) (H q c a w d _)|h8 u0 s1 s2 m0 n0 G o0 H=>
    refine lL (λa' w' ⟨J,g1,g2⟩=>?_) (H q c a w d _);rcases g2 with g2|g2
    .exact jA m y z A B l (i+1) s1 J a' w' D (hm.trans G) m0 g2 g1
    .exact jA m y z A B l (i+1) s2 J a' w' D (hm.trans o0) n0 g2 g1
   |ea p s1 e0 G H=>obtain⟨p0,q0⟩:=H q c;refine lL (λa' w' ⟨J,g1,g2⟩=>g2.elim) (q0 a w d _ λx v s' a' w' I' r0 k0 N Q=>?_);exact B x v s' a' w' I' r0 ⟨p,s1,k0.1,hm.trans G,e0,p0,k0.2⟩ N Q
  have x0:∀s:S U.C,bw sB s->aU P E T X s q->mE X kx esc ops l s K=O out->wpOps P ops R (List.range' (i+1) l.length++rest) a w:=λs hm c h=>jA m y z A B l (i+1) s q a w D hm h c d;have skip:∀s:S U.C,bw sB s->aU P E T X s q->mE X kx esc ops l (s.put o.dst pX) K=O out->wpOps P ops R (List.range' (i+1) l.length++rest) (a.put o.dst undef) w:=λs hm c h=>by refine jA m y z A B l (i+1) _ (q.put o.dst (.gw [])) _ w D (hm.trans (bi _ _)) h (c.put o.dst (.gw [] [] rfl λi r q Q=>by simp at Q)) ?_;obtain⟨I,be,N⟩:=d;exact⟨I,be,N.put o.dst (r:=.gw []) ⟨#[],rfl,rfl,λj r Q=>by simp at Q⟩⟩
  unfold mE at h;cases c0:o.guard with
  |none=>
   simp only[c0]at h;simp only[Region.wanted,c0,cm]
   grind
  |some p=>
   obtain⟨j,a0⟩:=p;simp only[c0]at h;split at h
   .cases h
   .rename_i t h0;have s0:t<n:=by grind
    have t0:=d;obtain⟨I,be,N⟩:=t0;have f:=c.ct t;have l0:∀b,uw q t a0=O b->(yielded ops a.tmps j==O a0)=b:=λb g=>ux N s0 h0 g;simp only[Region.wanted,c0];split at h
    .rename_i b g;have C:q.r t=.val (.fl (.bool b)):=by
      rw[g]at f;cases f with
      |val _ _ _ av C hv=>obtain ⟨_,rfl⟩:=hv;exact dk C
     rw[l0 (b==a0) (by simp[uw,C])];have d0:∀b',b'=b->aU P E T X (s.put (O t) (.val .bool b')) q:=λb' e=>c.Qa (by grind);cases b<;>cases a0<;>simp only[aW,aX]at h<;>simp
     .exact .inl (j0 (s.put (O t) _) (hm.trans (bi _ _)) (d0 _ rfl) h)
     .exact skip (s.put (O t) _) (hm.trans (bi _ _)) (d0 _ rfl) h
     .exact skip (s.put (O t) _) (hm.trans (bi _ _)) (d0 _ rfl) h
     .exact .inl (j0 (s.put (O t) _) (hm.trans (bi _ _)) (d0 _ rfl) h)
    .rename_i b g;have C:q.r t=.val (.fl (.bool b)):=by
      rw[g]at f;generalize q.r t=u at f;cases f with
      |const _ y0=>rfl
     rw[l0 (b==a0) (by simp[uw,C])]
     grind
    .rename_i g;have C:∃qs,q.r t=.gw qs:=by
      rw[g]at f;generalize q.r t=u at f;cases f with
      |gw _ qs _ _=>grind
     grind [uw]
    .cases h
def AJ{bx:Z (Nat×Nat×B U.C)}{g:Nat->Nat}{tick:Nat}{r:R U.C}{u:cH}(A:it=W->E.it=E'.it)(h:bA P E T bx g tick r u)(e:r.pl it=W):bA P E' T bx g tick r u:=by
 induction h with
 |none q=>exact .none q|val t x q av b hv=>have l:fD t=W:=e;have:=gm hv l;subst this;exact .val t x q _ b (eg l)
 |const v hv=>exact .const v hv|bF t xs l=>exact .bF t xs l
 |dT d k q o=>exact .dT d k q o|whole d q o=>exact .whole d q o
 |gq d i k C t x q hv o=>exact .gq d i k C t x q hv o|dF t x k l=>exact .dF t x k l
 |gw rs qs y w c=>exact .gw rs qs y λi r q a b=>c i r q a b (ph e r (bW a))|fn f caps p y w c=>exact .fn f caps p y λi r q a b=>c i r q a b (ph e r (bW a))
 |mR D t x l=>exact .mR D t x l|jy k i off=>exact .jy k i off
 |kq k i j off=>exact .kq k i j off|sub d off m q o=>exact .sub d off m q o
 |sN rs p s w z c=>exact .sN rs p s (λi r q a b=>c i r q a b (ph e r (bW a))) z|nF r av h c=>exact .nF r av (c e)
 |hk t l=>exact .hk t l|agg n rs p s w z c=>exact .agg n rs p s (λi r q a b=>c i r q a b (ph e r (bW a))) z
 |mc f rs p s w c=>exact .mc f rs p s λi r q a b=>c i r q a b (ph e r (bW a))|it k=>have e:it=W:=e;rw[A e];exact .it k
theorem wS{X':gy U}(w:X'.ty=X.ty)(l:E.df=E'.df)(h:it=W->E.it=E'.it)(a:aU P E T X s q)(f:s.pl it=W):aU P E' T X' s q:=by
 simp only[S.pl,aP,di]at f;refine⟨λt=>AJ h (a.ct t) ?_,λd=>?_,a.zo,a.Ez,a.heap,a.df.trans l⟩
 .rw[S.ib];cases b:aF s.r t with
  |none=>rfl|some e=>exact f.1 _ (gz (by rw[b]))
 .have g:=a.bD d;cases b:aF s.b d with
  |none=>exact trivial|some e=>
   obtain⟨st,x⟩:=e;rw[b]at g;have m:=f.2 _ (gz b);cases x with
   |cells u rs=>obtain⟨j,b2,cs,n,o,p⟩:=g;exact⟨j,b2,cs,n,o,λi r c k v=>AJ h (p i r c k v) (ph m r (bW k))⟩|br t e xs=>obtain⟨j,b2⟩:=g;exact⟨by grind,b2⟩
def Tg{e:an}{t:Ty}(h:kv P E T X e t):kv P E T X.fix e t:=by obtain⟨a,b,c,d,f,g,i,j,k,l,m,n,o,p,q,r,s,u,v,w,x⟩:=h;exact⟨a,b,c,d,f,g,i,j,k,l,m,n,o,p,q,r,s,u,v,w,x⟩
include L in
theorem ML(d:bJ P E T X)(g:∀E' e t,X.ty e=O t->kv P E' T X e t){m:Nat}(s:∃a b,U.ak m=.map a b)(j:m<U.nk){B l since:Nat}{seen:Z Nat}{x:Ob}:bJ P (E.wQ B l since seen (dY m i) x) T X.fix:=
 ⟨λh=>(by cases h),λk u o v=>by
  simp only[cd.wQ];rw[ao λe=>?_];obtain⟨rfl,_⟩:=il L o j e
  grind,λe t p=>Tg (g _ e t p),λf c q=>(by cases q),d.h7,d.map,d.Mb,d.Mc,d.k6,d.ry,λf n fs r=>by cases r⟩
end
section
variable{A:Type}
def jB(seen:Z Nat)(z:Z (A×Nat)):Z A:=(z.filter λp=>!seen.contains p.2).map (·.1)
theorem ez(seen:Z Nat)(y:A)(c:Nat)(z:Z (A×Nat)):jB seen ((y,c)::z)=if c∈seen then jB seen z else y::jB seen z:=by grind [jB]
theorem zK{seen:Z Nat}{b:Nat}:∀{z:Z (A×Nat)},b∉z.map (·.2)->jB (seen++[b]) z=jB seen z
 |[],_=>rfl|(y,c)::z,h=>by
  simp only[gb,fb,not_or]at h;rw[ez,ez,zK h.2]
  grind
theorem uU{seen:Z Nat}{b:Nat}{x:A}(f:b∉seen):∀{z:Z (A×Nat)}{j:Nat},(z.map (·.2)).Nodup->z[j]?=O (x,b)->∃i,i<(jB seen z).length/\(jB seen z)[i]?=O x/\(jB seen z).eraseIdx i=jB (seen++[b]) z
 |[],j,_,h=>by simp at h|(y,c)::z,0,d,h=>by
  simp only[ic,aN,cz]at h;obtain⟨rfl,rfl⟩:=h;simp only[gb,oc]at d;refine⟨0,?_,?_,?_⟩
  .rw[ez,ao f];simp
  .rw[ez,ao f];rfl
  .rw[ez,ao f,ez,aq aH,zK d.1];rfl
 |(y,c)::z,j+1,d,h=>by
  simp only[gb,oc]at d;have h:z[j]?=O (x,b):=by grind
  obtain⟨i,g,k,l⟩:=uU f d.2 h;have m:c≠b:=λe=>d.1 (e▸gC.2 ⟨(x,b),bW h,rfl⟩);by_cases a:c∈seen
  .refine ⟨i,?_,?_,?_⟩
   .rw[ez,aq a];exact g
   .rw[ez,aq a];exact k
   .rw[ez,aq a,ez,aq (by simp[a])];exact l
  .refine ⟨i+1,?_,?_,?_⟩
   .rw[ez,ao a];grind
   .rw[ez,ao a];grind
   .rw[ez,ao a,ez,ao (by grind)]
    grind
def Db{seen:Z Nat}:∀{z:Z (A×Nat)},(∀b∈z.map (·.2),b∈seen)->jB seen z=[]
 |[],_=>rfl|(y,c)::z,h=>by rw[ez,aq (h c aH),Db λb a=>h b (by simp[a])]
def yq:∀(z:Z (A×Nat)),jB [] z=z.map (·.1)
 |[]=>rfl|(y,c)::z=>by rw[ez,ao aH,yq z];rfl
theorem HV{B:Type}:∀{l:Z A}{m:Z B},l.length=m.length->(l.zip m).map (·.1)=l
 |[],[],_=>rfl|a::l,b::m,h=>by simp only[LB,gb,HV (l:=l) (m:=m) (by grind)]
theorem HW{B:Type}:∀{l:Z A}{m:Z B},l.length=m.length->(l.zip m).map (·.2)=m
 |[],[],_=>rfl|a::l,b::m,h=>by simp only[LB,gb,HW (l:=l) (m:=m) (by grind)]
end
theorem FR:∀(l:Z aC),lg l++Da l=l
 |[]=>rfl|[o]=>rfl
 |o::a::l=>by
  have:=FR (a::l)
  grind [lg,Da]
def Kd{P:ai}{w:af}{Q:Exit->Act->af->Prop}(I:Nat->Act->af->Prop)(m:Nat)(h0:I m a w)(j:∀a w,Q .outgrown a w->False)(n:∀m a w,I m a w->c.wp P (Exit.then (λa' w'=>∃i,i<m/\I i a' w') Q) a w):(Code.loop c).wp P Q a w:=by
 intro b k cs;have o:∀m a w,I m a w->∃e a' w',Q e a' w'/\Arrives P (lone (b.at a (.code c::.inLoop c::k)) cs w) b k cs e a' w':=by
  intro m;induction m using Nat.strongRecOn with
  |_ m p=>
   intro a w q;obtain⟨e,g,h,d,f⟩:=n m a w q b (.inLoop c::k) cs;cases e with
   |normal=>obtain⟨i,r,s⟩:=d;obtain⟨t,u,v,y,z⟩:=p i r g h s;exact⟨t,u,v,y,.of_steps (Steps.trans f (.one step_inLoop)) z⟩|exit id=>exact ⟨.exit id,g,h,d,.pass (x:=.inLoop c) rfl (λ_ _=>.inl aH) f⟩|goto l=>exact ⟨.goto l,g,h,d,.pass (x:=.inLoop c) rfl (λ_ _=>.inl aH) f⟩
   |ret=>exact ⟨.ret,g,h,d,.pass (x:=.inLoop c) rfl (λ_ _=>.inl aH) f⟩|panic A=>exact ⟨.panic A,g,h,d,.pass (x:=.inLoop c) rfl (λ_ _=>.inl aH) f⟩
   |outgrown=>exact (j _ _ d).elim
 obtain⟨e,a',w',d,f⟩:=o m a w h0;exact⟨e,a',w',d,.of_steps (.one step_loop) f⟩
section
variable{P:ai}{E E':cd}{U:cp}{T:dt U.C}{X:gy U}{w0:af}{I0:aA}{n:Nat}{α:Type}{out:α}{kx:o8 U->S U.C->V α}{esc:Z (Nat×Nat)}
variable(L:cD U T)
theorem Wc{o:RO}(h:p.ro=O o):(∃a,Da p.ops.toList=[a]/\a.op=.range o.e o.x/\a.dst=O o.ti/\a.guard=Y)/\
  (∃b l,p.nx.toList=b::l/\b.op=.next (.tmp o.ti) F/\b.dst=O o.tn/\b.guard=Y)/\∃c l,p.en.toList=c::l/\c.op=.entry (.tmp o.ti)/\c.dst=O o.te/\c.guard=Y:=by
 unfold RP.ro at h;obtain⟨r,f,h⟩:=bind_some h;obtain⟨x,g,h⟩:=bind_some h;obtain⟨e,i,h⟩:=bind_some h;obtain⟨d,h⟩:=az h;simp only[aP]at d;have j:=cC d.1;have k:=cC d.2;injection h with h;subst h;refine⟨?_,?_,?_⟩
 .unfold OO at f
  grind
 .unfold Te at g
  grind
 .unfold OP at i
  grind
def jC{rest:Z Nat}{R:Exit->Act->af->Prop}{w w':af}{v:ag}(b:ops[i]?=O o)(c:o.guard=Y)(d:(execOp a.eval o).run P w=.ok (.value v) w')(h:wpOps P ops R rest (a.put o.dst v) w'):wpOps P ops R (i::rest) a w:=by simp only[wpOps,b,Region.wanted,c,cm];exact .inl (fS d h)
theorem uV{l:Z aC}(h:ops.toList=o::l):List.range ops.size=0::(List.range' 1 l.length++[])/\ops[0]?=O o/\∀j a,l[j]?=O a->ops[1+j]?=O a:=by
 have b:ops.size=l.length+1:=by rw[<-EO,h];rfl
 refine⟨?_,?_,λj a c=>?_⟩
 .rw[b,Lz,List.range'_succ,ES]
 .rw[<-tz,h];rfl
 .rw[<-tz,h,py];grind
theorem sg(h:ju n ops=W)(a:ops[i]?=O o):ba n o=W:=by
 have:=rB.1 h o (kQ a)
 grind
theorem zL{s:S U.C}:bw s (ng ti s):=by
 refine⟨rfl,bq _,λt st x h a=>?_,λ_ _ _ h _=>h,λ_=>⟨rfl,rfl⟩⟩
 grind [ng,aR]
theorem aU.zI {E:cd} {s:S U.C} {q:St} (a:aU P E T X s q):aU P E T X (ng ti s) q:=by
 refine⟨λt=>?_,a.bD,λt st x h=>?_,a.Ez,a.heap,a.df⟩
 .have b:=a.ct t;rw[S.ib]at b⊢;simp only[ng,aR];by_cases e:ti=t
  .rw[aq e];exact .none _
  grind
 .simp only[ng,aR]at h;split at h
  .cases h
  .exact a.zo t st x h
def ZL(d:E'.df=E.df){k:Ex->S U.C->V α}{e:Ex}{s a:S U.C}{b:St}(h:HU ti k e a=O out)(f:aU P E' T X.fix a b)(g:bw s a)(i:∀e s' c,aU P E T X s' c->bw s s'->k e s'=O out->Q (ae e) c):Q (ae e) b:=by obtain⟨j,h⟩:=az h;have l:aU P E' T X.fix (ng ti a) b:=f.zI;exact i e _ b (wS (X:=X.fix) (X':=X) rfl d (it:=F) (λh=>by cases h) l j) (g.trans zL) h
def abw(b:E'.df=E.df){sB s:S U.C}{av:AV}{q:St}(c:bw sB s)(h:XE P E' T X.fix s (ZK kx ti) out av q):XE P E T X sB kx out av q:=by obtain⟨p,s',d,e,a,f,g⟩:=h;obtain⟨i,a⟩:=az a;have j:aU P E' T X.fix (ng ti s') q:=d.zI;exact⟨p,ng ti s',wS (X:=X.fix) (X':=X) rfl b (it:=F) (λh=>by cases h) j i,(c.trans e).trans zL,a,f,g⟩
theorem Th{m:Nat->aa}{h:U.C 0}{A:Nat->V Ob}{Vloc:Nat->aa}{d:Z (AV×AV)}{c f:V (Z Nat×Nat)}(g:fB T m h A Vloc)(hi:A i=O (.map d c)):fB T m h (b8 A i (O (.map d f))) Vloc:=λk j l b=>by
 have a:=g k j l b;by_cases e:dY k b=i
 .rw[e]at a;rw[e,ch];cases n:(U.get k h)[b]? with
  |none=>grind|some x=>rw[n]at a;simp only at a⊢;rw[hi]at a;exact a
 .rw[aO _ _ e];exact a
def HX{E:cd}{s:S U.C}{q:St}{w:af}{I:aA}{be:Nat->V Nat}(d:aU P E T X s q)(b:bU P w I be q.b q.g (a.eval (.tmp ti)) (q.ev (.tmp ti)))(h:s.bG ti=.it 0):a.eval (.tmp ti)=.pointer (O ⟨E.it 0,0,Y⟩):=by have c:=d.ct ti;rw[h]at c;have b:bU P w I be q.b q.g (a.eval (.tmp ti)) (q.r ti):=b;generalize q.r ti=u at c b;cases c;exact bV b
include L in
theorem Qj(J3:P.follows .mixedOrders=W)(u0:bJ P E T X)(L3:∀E' e t,X.ty e=O t->kv P E' T X e t){sB:S U.C}(H1:(∃k,sB.m k=W)->E.cT=F)(u2:∀av y,XE P E T X sB kx out av y->Zloc av y)
   {j:Sh} {c0:e9} {s:S U.C} {k:Ex->S U.C->V α} {q:St} (v2:eJ n p.code=W) (y0:bw sB s) (h:Tf X kx esc p j c0 s k=O out) (N3:aU P E T X s q)
  (P3:∀e s' y,aU P E T X s' y->bw s s'->k e s'=O out->Q (ae e) y):nC P E w0 I0 n p.code Q Zloc q:=by
 intro a w j1;unfold Tf at h;split at h
 .cases h
 rename_i o Q3;obtain⟨⟨k1,R3,y2,S3,T3⟩,⟨L5,nl,l1,J1,A2,B2⟩,⟨N5,el,e1,e2,e3,U3⟩⟩:=Wc Q3;simp only[RP.code,eJ,aP,and_true]at v2;obtain⟨C2,K1,X3,D2,c4⟩:=v2;have n1:=FR p.ops.toList;rw[R3]at n1;have hlen:p.ops.size=(lg p.ops.toList).length+1:=by
  have:=bN List.length n1
  grind
 have E2:p.ops[(lg p.ops.toList).length]?=O k1:=by
  have:(lg p.ops.toList++[k1])[(lg p.ops.toList).length]?=p.ops.toList[(lg p.ops.toList).length]?:=by rw[n1]
  grind
 have d4:∀(g:Nat)(L1:aC),(lg p.ops.toList)[g]?=O L1->p.ops[0+g]?=O L1:=λg L1 P5=>by
  have:(lg p.ops.toList++[k1])[g]?=p.ops.toList[g]?:=by rw[n1]
  grind
 have G2:=sg C2 E2;refine kT (oh ?_);rw[Lz,hlen,List.range'_concat,dN,uk];refine jA (w0:=w0) (I0:=I0) L u0 (sB:=s) (by rw[y0.m];exact H1) C2 ?_ ?_ _ 0 s q a w d4 (.refl s) h N3 j1
 .rintro q1 N1 a0 ⟨A0,o1,g4,B⟩ ⟨p1,t1,P1⟩;simp only at B;split at B;rotate_left
  .cases B
  rename_i K m Q5 u1 i4;obtain⟨j0,B⟩:=az B;simp only[aP]at j0;obtain⟨Q1,hw,j4⟩:=j0;have Q1:=cC Q1;subst Q1;split at B;rotate_left
  .cases B
  rename_i A vt H2;split at B;rotate_left
  .cases B
  rename_i l I2;obtain⟨i,hi,B⟩:=bind_some B;obtain⟨d,k4,B⟩:=bind_some B;obtain⟨B0,B⟩:=az B;simp only[aP]at B0;obtain⟨B0,J2⟩:=B0;split at B;rotate_left
  .cases B
  rename_i l4 K2;have v1:∀j,E.ro j=Y:=u0.ro hw;obtain⟨R5,L2⟩:=Hv I2 o1 k4;obtain⟨⟨S5,m4⟩,_⟩:=x8 I2;have n4:q1.ev o.x=.val (.mp (dY K i)):=by
   have c:=o1.ev o.x (bS G2 (by simp[y2,Op.operands]));rw[i4]at c;subst hi;generalize q1.ev o.x=u at c;cases c with
   |val _ _ _ av C hv=>obtain⟨_,rfl⟩:=hv;cases u<;>simp[bz,enc,Co]at C;rw[C]
  obtain⟨T5,U5,hu,_⟩:=(u0.ty _ _ u1).mp _ rfl;obtain⟨o4,since,bs,N2,X5,b2,p4,s4,t4⟩:=MI (x:=o.x) y2 G2 hu P1 v1 n4 L2;refine jC E2 T3 p4 ?_;show(Code.block p.b _).wp P _ (N1.put k1.dst _) N2;rw[S3];obtain⟨f,H⟩:∃f:Z Nat->cd,f=λseen=>E.wQ a0.heap.size o4 since seen (dY K i) (.map (d.map λp=>(enc T A p.1,enc T vt p.2)) (O (bs,since))):=⟨_,rfl⟩
  have u4:∀a b,(f a).it=(f b).it:=λa b=>by rw[H];rfl
  have P2:∀a,(f a).cT=E.cT:=λa=>by rw[H];rfl
  have C0:∀a,(f a).df=E.df:=λa=>by rw[H];rfl
  have f0:∀seen,bJ P (f seen) T X.fix:=λseen=>by rw[H];exact ML L u0 L3 ⟨A,vt,H2⟩ m4
  have Q2:∀{a b:Z Nat}{s':S U.C}{y:St},aU P (f a) T X.fix s' y->s'.pl W=W->aU P (f b) T X.fix s' y:=λB v4=>wS (X:=X.fix) (X':=X.fix) rfl ((C0 _).trans (C0 _).symm) (it:=W) (λ_=>u4 _ _) B v4;have y1:d.length=bs.length:=by grind
  have R2:((d.zip bs).map (·.2)).Nodup:=by rw[HW y1];exact b2
  have S2:aJ P (f []) w0 I0 n (({q1 with a:=b8 q1.a (dY K i) (O (.map (d.map λp=>(enc T A p.1,enc T vt p.2)) (O (bs,since))))}:St).put (O o.ti) (.val (.fl (.pointer (O ⟨a0.heap.size,0,Y⟩))))) (N1.put (O o.ti) (.pointer (O ⟨a0.heap.size,0,Y⟩))) N2 p1 t1:=by rw[H];exact t4.put (O o.ti) (r:=.val (.fl (.pointer (O ⟨a0.heap.size,0,Y⟩)))) (cy.fl _ rfl)
  have D0:aU P (f []) T X.fix (A0.put (O o.ti) (.it 0)) (({q1 with a:=b8 q1.a (dY K i) (O (.map (d.map λp=>(enc T A p.1,enc T vt p.2)) (O (bs,since))))}:St).put (O o.ti) (.val (.fl (.pointer (O ⟨a0.heap.size,0,Y⟩))))):=by
   have e1:aU P E T X A0 ({q1 with a:=b8 q1.a (dY K i) (O (.map (d.map λp=>(enc T A p.1,enc T vt p.2)) (O (bs,since))))}:St):=o1.rk (hv:=A0.hv) (bq _) (Th o1.heap L2);have e2:aU P (f []) T X.fix A0 ({q1 with a:=b8 q1.a (dY K i) (O (.map (d.map λp=>(enc T A p.1,enc T vt p.2)) (O (bs,since))))}:St):=wS (X:=X) (X':=X.fix) rfl (C0 _).symm (it:=F) (λh=>by cases h) e1 j4;refine e2.put (O o.ti) ?_;have:(f []).it 0=a0.heap.size:=by rw[H];rfl
   rw[<-this];exact .it 0
  generalize b6:(({q1 with a:=b8 q1.a (dY K i) (O (.map (d.map λp=>(enc T A p.1,enc T vt p.2)) (O (bs,since))))}:St).put (O o.ti) (.val (.fl (.pointer (O ⟨a0.heap.size,0,Y⟩)))))=c6 at S2 D0;generalize y4:A0.put (O o.ti) (.it 0)=s2 at D0 B K2 J2;have A4:bw s s2:=by rw[<-y4];exact g4.trans (bi _ _)
  obtain⟨B4,g1,g2,g3⟩:=wI (w0:=w0) (I0:=I0) (n:=n) L (f0 []) B0 D0 (.refl _) D0 K2;have R1:w0.heap.size<=a0.heap.size:=s4;refine wp_block (Kd (I:=λMloc a' w'=>∃seen st y,Mloc=(jB seen (d.zip bs)).length/\ko P (f seen) w0 I0 n y a' w'/\aU P (f seen) T X.fix (j.load s2 st) y/\bw s2 (j.load s2 st)/\lf (tV X kx esc p o j c0 s2 k A vt) (zJ X kx esc p o j s2 k) Mloc (jB seen (d.zip bs)) st=O out) d.length ?_ (λ_ _ h=>h) ?_)
  .refine ⟨[],l4,B4,by rw[yq,HV y1],g1 _ _ ⟨p1,t1,S2⟩,g2,g3,?_⟩;rw[yq,HV y1];exact B
  rintro Mloc S1 C4 ⟨seen,st,y,d6,⟨E0,G0,k0⟩,A1,T2,c⟩;have D4:=sg K1 (uV l1).2.1;have U2:∀{seen:Z Nat}{X2:St}{h3:Act}{l0:af}{j3:aA}{k3:Nat->V Nat},aJ P (f seen) w0 I0 n X2 h3 l0 j3 k3->aJ P E w0 I0 n X2 h3 l0 j3 k3:=λl3=>by rw[H]at l3;exact l3.zI R1 v1
  have T1:∀seen,(f seen).it 0=a0.heap.size:=λseen=>by rw[H];rfl
  have B1:∀{seen:Z Nat}{n3:S U.C}{R:Exit->Act->af->Prop}(j1:∀U1 a w,xL P E w0 I0 n Q Zloc (.panic U1) a w->R (.panic U1) a w)(o3:bw s n3)(av:AV)(v:ag)(q:St)(a:Act)(w:af)(I:aA)(be:Nat->V Nat),XE P (f seen) T X.fix n3 (ZK kx o.ti) out av q->aJ P (f seen) w0 I0 n q a w I be->cy w I v av->R (.panic [{v:=v,recovered:=F}]) a w:=λj1 o3 av v q a w I be H0 E4 c=>j1 _ _ _ ⟨av,v,q,I,be,rfl,u2 _ _ (abw (C0 _) (y0.trans o3) H0),U2 E4,c⟩;have C1:∀{seen:Z Nat}{e:Ex}{g0:S U.C}{m0:St}{J0:Act}{K0:af},HU o.ti k e g0=O out->aU P (f seen) T X.fix g0 m0->bw s g0->ko P (f seen) w0 I0 n m0 J0 K0->∃y,ko P E w0 I0 n y J0 K0/\Q (ae e) y:=λd0 L0 D1 ⟨N0,P0,n0⟩=>⟨_,⟨N0,P0,U2 n0⟩,ZL (C0 _) d0 L0 D1 P3⟩
  have o0:bw s (j.load s2 st):=A4.trans T2;refine kT (oh ?_);obtain⟨H4,c2,c3⟩:=uV l1;rw[H4];have p3:=aM D4 (x:=.tmp o.ti) (by simp[J1,Op.operands]) k0;cases Mloc with
  |zero=>
   have c:zJ X kx esc p o j s2 k st=O out:=c;unfold zJ at c;obtain⟨j0,c⟩:=az c;simp only[aP]at j0;have Q0:=HX A1 p3 (HS j0.2);rw[T1]at Q0;rw[H]at k0;rcases FO (x:=.tmp o.ti) J1 k0 R1 v1 Q0 with⟨s3,R0⟩|⟨g,b,l0,X1,vv,t3,a2,R0,j2⟩
   .refine jC c2 B2 R0 ?_;rw[A2];have j2:aJ P (f seen) w0 I0 n (y.put (O o.tn) (.gw [.val (.fl (.bool F))])) (S1.put (O o.tn) (.tuple #[.bool F])) C4 E0 G0:=by
     rw[H];refine k0.put (O o.tn) (r:=.gw [.val (.fl (.bool F))]) ⟨#[.bool F],rfl,rfl,λe0 r c=>?_⟩;cases e0 with
     |zero=>simp at c;subst c;exact cy.fl _ rfl|succ e0=>simp at c
    have J4:aU P (f seen) T X.fix ((j.load s2 st).put (O o.tn) (.gw [.val .bool F])) (y.put (O o.tn) (.gw [.val (.fl (.bool F))])):=
     A1.put (O o.tn) (.gw _ _ rfl λix r q c C=>by
      cases ix with
      |zero=>simp at c C;subst c C;exact bn (t:=.bool) rfl|succ ix=>simp at c)
    refine jA (w0:=w0) (I0:=I0) L (f0 seen) (sB:=(j.load s2 st).put (O o.tn) (.gw [.val .bool F])) ?_ K1 ?_ ?_ nl 1 _ _ _ _ c3 (.refl _) (by rw[l1]at c;exact c) J4 ⟨E0,G0,j2⟩
    .rw[P2,((y0.trans o0).trans (bi _ _)).m];exact H1
    .rintro e6 L4 N4 ⟨f6,E1,P4,p0⟩ ⟨Q4,R4,G1⟩;simp only at p0;split at p0;rotate_left
     .cases p0
     rename_i k2;refine kT (wp_cond_false ?_ (wp_exit ?_))
     .have S0:=G1.ev (.tmp p.tc) rfl (λt u1=>by grind [xN,ca]);have q0:=lR (E1.ev (.tmp p.tc) rfl) k2;rw[q0]at S0;exact bV S0
     .show(if p.b=p.b then xL P E w0 I0 n Q Zloc .normal L4 N4 else _);rw[aq rfl];exact C1 p0 E1 ((o0.trans (bi _ _)).trans P4) ⟨Q4,R4,G1⟩
    .exact B1 (λ_ _ _ h=>h) (o0.trans (bi _ _))
   .exfalso;have u3:g<d.length:=by grind
    obtain⟨l2,i1,_⟩:=uU (z:=d.zip bs) (j:=g) (x:=d[g]) a2 R2 (by rw[List.getElem?_zip_eq_some];grind);omega
  |succ Mloc=>
   have v3:0<(jB seen (d.zip bs)).length:=M;have c:oE (jB seen (d.zip bs)).length (λi=>((jB seen (d.zip bs))[i]?).bind λx=>tV X kx esc p o j c0 s2 k A vt x st λT0=>lf (tV X kx esc p o j c0 s2 k A vt) (zJ X kx esc p o j s2 k) Mloc ((jB seen (d.zip bs)).eraseIdx i) T0)=O out:=c;have y3:(j.load s2 st).pl W=W/\C8 ((j.load s2 st).bG o.ti)=W:=by
    obtain⟨x,_,h0⟩:=bind_some (tU c 0 v3);unfold tV at h0;obtain⟨j0,_⟩:=az h0
    grind
   have Q0:=HX A1 p3 (HS y3.2);rw[T1]at Q0;rw[H]at k0;rcases FO (x:=.tmp o.ti) J1 k0 R1 v1 Q0 with⟨s3,R0⟩|⟨g,b,l0,X1,vv,t3,a2,R0,j2⟩
   .exfalso;rw[Db (by rw[HW y1];exact s3)]at v3
    grind
   .have u3:g<d.length:=by grind
    obtain⟨l2,i1,i2,A3⟩:=uU (z:=d.zip bs) (j:=g) (x:=d[g]) a2 R2 (by rw[List.getElem?_zip_eq_some];grind);have b0:=tU c l2 i1;rw[i2]at b0;have b0:tV X kx esc p o j c0 s2 k A vt d[g] st (λT0=>lf (tV X kx esc p o j c0 s2 k A vt) (zJ X kx esc p o j s2 k) Mloc ((jB seen (d.zip bs)).eraseIdx l2) T0)=O out:=b0;rw[A3]at b0;generalize S4:(λT0=>lf (tV X kx esc p o j c0 s2 k A vt) (zJ X kx esc p o j s2 k) Mloc (jB (seen++[b]) (d.zip bs)) T0)=rec at b0;unfold tV at b0;obtain⟨_,b0⟩:=az b0;have T4:Mloc=(jB (seen++[b]) (d.zip bs)).length:=by rw[<-A3,List.length_eraseIdx,aq i1];omega
    have U4:aJ P (f (seen++[b])) w0 I0 n y S1 l0 E0 G0:=by grind
    refine jC c2 B2 R0 ?_;rw[A2];have G1:aJ P (f (seen++[b])) w0 I0 n (y.put (O o.tn) (.gw [.val (.fl (.bool W)),.none,.none])) (S1.put (O o.tn) (.tuple #[.bool W,X1,vv])) l0 E0 G0:=by
     refine U4.put (O o.tn) (r:=.gw [.val (.fl (.bool W)),.none,.none]) ⟨#[.bool W,X1,vv],rfl,rfl,λe0 r c=>?_⟩;match e0 with
     |0=>simp at c;subst c;exact cy.fl _ rfl|1=>simp at c;subst c;trivial
     |2=>simp at c;subst c;trivial|e0+3=>simp at c
    have E1:aU P (f (seen++[b])) T X.fix ((j.load s2 st).put (O o.tn) (.gw [.val .bool W,.none,.none])) (y.put (O o.tn) (.gw [.val (.fl (.bool W)),.none,.none])):=
     (Q2 A1 y3.1).put (O o.tn) (.gw _ _ rfl λix r q c C=>by
      match ix with
      |0=>simp at c C;subst c C;exact bn (t:=.bool) rfl|1=>simp at c C;subst c C;exact .none _
      |2=>simp at c C;subst c C;exact .none _|ix+3=>simp at c)
    have n2:∀{s':S U.C},bw s s'->(∃k,s'.m k=W)->(f (seen++[b])).cT=F:=λp0=>by rw[P2,(y0.trans p0).m];exact H1
    refine jA (w0:=w0) (I0:=I0) L (f0 (seen++[b])) (sB:=(j.load s2 st).put (O o.tn) (.gw [.val .bool W,.none,.none])) ?_ K1 ?_ ?_ nl 1 _ _ _ _ c3 (.refl _) (by rw[l1]at b0;exact b0) E1 ⟨E0,G0,G1⟩
    .exact n2 (o0.trans (bi _ _))
    .rintro m0 J0 K0 ⟨g0,L0,D1,d0⟩ ⟨N0,P0,n0⟩;simp only at d0;split at d0;rotate_left
     .cases d0
     rename_i k2;obtain⟨X4,d0⟩:=az d0;have o2:bw s g0:=(o0.trans (bi _ _)).trans D1;refine kT (wp_cond_true ?_ (wp_skip ?_))
     .have S0:=n0.ev (.tmp p.tc) rfl (λt u1=>by cases u1;simpa[xN,ca]using X3);have q0:=lR (L0.ev (.tmp p.tc) rfl) k2;rw[q0]at S0;exact bV S0
     .refine wp_block (kT (oh ?_));obtain⟨b5,d2,c5⟩:=uV e1;rw[b5];have d5:=sg D2 d2;have B3:=HX L0 (aM d5 (x:=.tmp o.ti) (by simp[e2,Op.operands]) n0) (HS X4);rw[T1]at B3;rw[H]at n0;obtain⟨C3,D3,e5,f1,f2,f3,f5⟩:=MH (x:=.tmp o.ti) e2 n0 t3 B3;refine jC d2 U3 f1 ?_;rw[e3];have g5:e5=(enc T A d[g].1,enc T vt d[g].2):=by rw[gu,cX u3]at f2;simpa using f2.symm
      subst g5;have i5:aJ P (f (seen++[b])) w0 I0 n m0 J0 K0 N0 P0:=by grind
      have j5:aJ P (f (seen++[b])) w0 I0 n (m0.put (O o.te) (.gw [.val (enc T A d[g].1),.val (enc T vt d[g].2)])) (J0.put (O o.te) (.tuple #[C3,D3])) K0 N0 P0:=by
       refine i5.put (O o.te) (r:=.gw [.val (enc T A d[g].1),.val (enc T vt d[g].2)]) ⟨#[C3,D3],rfl,rfl,λe0 r c=>?_⟩;match e0 with
       |0=>simp at c;subst c;exact f3|1=>simp at c;subst c;exact f5
       |e0+2=>simp at c
      obtain⟨k5,l5⟩:=u0.map _ _ _ H2;have m5:fD A=W:=by cases A<;>first|rfl|cases k5
      have n5:aU P (f (seen++[b])) T X.fix (g0.put (O o.te) (.gw [.val A d[g].1,.val vt d[g].2])) (m0.put (O o.te) (.gw [.val (enc T A d[g].1),.val (enc T vt d[g].2)])):=
       L0.put (O o.te) (.gw _ _ rfl λix r q c C=>by
        match ix with
        |0=>simp at c C;subst c C;exact bn m5|1=>simp at c C;subst c C;exact bn l5
        |ix+2=>simp at c)
      refine jA (w0:=w0) (I0:=I0) L (f0 (seen++[b])) (sB:=g0.put (O o.te) (.gw [.val A d[g].1,.val vt d[g].2])) ?_ D2 ?_ ?_ el 1 _ _ _ _ c5 (.refl _) (by rw[e1]at d0;exact d0) n5 ⟨N0,P0,j5⟩
      .exact n2 (o2.trans (bi _ _))
      .rintro o5 p5 r5 ⟨i0,t5,E3,q0⟩ u5;simp only at q0;have U0:bw s i0:=(o2.trans (bi _ _)).trans E3;have v5:bw s2 i0:=((((T2.trans (bi _ _)).trans D1).trans (bi _ _)).trans E3)
       have x5:=kk (w0:=w0) (I0:=I0) L (f0 (seen++[b])) (sB:=i0) (n2 U0) (kl L J3 (f0 (seen++[b]))) (Zloc:=λav q=>XE P (f (seen++[b])) T X.fix i0 (ZK kx o.ti) out av q) (λ_ _ h=>h) p.body c0 i0 _ o5
        (λe N=>∃e' D,e=ae e'/\aU P (f (seen++[b])) T X.fix D N/\bw i0 D/\(match e' with
          |.normal=>FQ j s2 rec D|.exit id=>bif Nat.beq id p.b2 then FQ j s2 rec D else bif Nat.beq id p.b then HU o.ti k .normal D else HU o.ti k (.exit id) D
          |.ret=>HU o.ti k .ret D)=O out) c4 (.refl _) q0 t5 (λe' D N m1 m2 m3=>⟨e',D,rfl,m1,m2,m3⟩)
       have H3:∀{D:S U.C}{N:St}{r0:Act}{s0:af},FQ j s2 rec D=O out->aU P (f (seen++[b])) T X.fix D N->bw i0 D->ko P (f (seen++[b])) w0 I0 n N r0 s0->
         ∃K,K<Mloc+1/\∃seen st y,K=(jB seen (d.zip bs)).length/\ko P (f seen) w0 I0 n y r0 s0/\aU P (f seen) T X.fix (j.load s2 st) y/\bw s2 (j.load s2 st)/\lf (tV X kx esc p o j c0 s2 k A vt) (zJ X kx esc p o j s2 k) K (jB seen (d.zip bs)) st=O out:=λX0 y5 A5 J=>by
        unfold FQ at X0;split at X0
        .rename_i B5 C5;obtain⟨D5,m1,m2,m3⟩:=wI (w0:=w0) (I0:=I0) (n:=n) L (f0 (seen++[b])) B0 (Q2 D0 J2) (v5.trans A5) y5 C5;rw[<-S4]at X0;exact⟨Mloc,xy Mloc,seen++[b],B5,D5,T4,m1 _ _ J,m2,m3,X0⟩
        .cases X0
       refine pB (x5 p5 r5 u5) λe r0 s0 t0=>?_;cases e with
       |normal=>
        obtain⟨N,J,e',D,G,m1,m2,m3⟩:=t0;cases e' with
        |normal=>exact H3 m3 m1 m2 J|exit id=>cases G
        |ret=>cases G
       |exit id=>
        obtain⟨N,J,e',D,G,m1,m2,m3⟩:=t0;cases e' with
        |normal=>cases G
        |ret=>cases G
        |exit g6=>
         injection G with G;subst G;simp only at m3;simp only[Exit.inBlock];by_cases p2:id=p.b2
         .subst p2;rw[uh]at m3;rw[aq rfl];exact H3 m3 m1 m2 J
         .rw[x7 p2]at m3;rw[ao p2];simp only[aX]at m3;show(if id=p.b then xL P E w0 I0 n Q Zloc .normal r0 s0 else xL P E w0 I0 n Q Zloc (.exit id) r0 s0);by_cases t2:id=p.b
          .subst t2;rw[uh]at m3;rw[aq rfl];exact C1 m3 m1 (U0.trans m2) J
          .rw[x7 t2]at m3;rw[ao t2];exact C1 m3 m1 (U0.trans m2) J
       |goto l=>obtain⟨N,J,e',D,G,_⟩:=t0;cases e'<;>cases G
       |ret=>
        obtain⟨N,J,e',D,G,m1,m2,m3⟩:=t0;cases e' with
        |normal=>cases G
        |exit id=>cases G
        |ret=>exact C1 m3 m1 (U0.trans m2) J
       |panic U1=>obtain⟨x,v,N,E5,H5,rfl,H0,J,J5⟩:=t0;exact B1 (R:=λe a w=>xL P E w0 I0 n Q Zloc e a w) (λ_ _ _ h=>h) U0 x v N r0 s0 E5 H5 H0 J J5|outgrown=>exact t0
      .exact B1 (λ_ _ _ h=>h) (o2.trans (bi _ _))
    .exact B1 (λ_ _ _ h=>h) (o0.trans (bi _ _))
 .intro av v q1 N1 a0 p1 t1 H0 P1 c;exact⟨av,v,q1,p1,t1,rfl,u2 _ _ (H0.up y0),P1,c⟩
end
section
variable{U:cp}{α:Type}(X:gy U)(kx:o8 U->S U.C->V α)(esc:Z (Nat×Nat))
noncomputable def FT:bT->e9->S U.C->(Ex->S U.C->V α)->V α
 |.seq a b,h,s,k=>match h with
  |.seq Y f d=>FT a f s λe s'=>match e with
   |.normal=>FT b d s' k|e=>k e s'
  |.Ho j d=>match C9 (.seq a b)with
   |some p=>Tf X kx esc p j d s k|none=>Y
  |h=>gX X kx esc (.seq a b) h s k
 |c,h,s,k=>gX X kx esc c h s k
noncomputable def HY (ps:Z Ty) (rs:Z RK) (p:V (an×Ty)) (esc:Z (Nat×Nat)) (a:Z ResultVar) (c:bT) (hint:e9) (x:HL U.C ps) (h:U.C 0):V (jm U p (HL U.C (rs.map RK.ty))×U.C 0):=
 FT X (λq s=>Jy s.h (Ap p q)) esc c hint {r:=kF ps 0 x,b:=[],tick:=1,h:=h} λe s=>match e with
  |.exit _=>Y|_=>dj X W a rs s λs y=>O (xU p y,s.h)
end
section
variable{P:ai}{E:cd}{U:cp}{T:dt U.C}{X:gy U}{w0:af}{I0:aA}{n:Nat}{α:Type}{out:α}{kx:o8 U->S U.C->V α}{esc:Z (Nat×Nat)}
variable(L:cD U T)
include L in
theorem Ti(u:P.follows .mixedOrders=W)(j:bJ P E T X)(J:∀E' e t,X.ty e=O t->kv P E' T X e t){sB:S U.C}(v:(∃k,sB.m k=W)->E.cT=F)(w:∀av d,XE P E T X sB kx out av d->Zloc av d):
  ∀(c:bT)(hint:e9)(s:S U.C)(k:Ex->S U.C->V α)(q:St)(Q:e7->St->Prop),eJ n c=W->bw sB s->FT X kx esc c hint s k=O out->aU P E T X s q->(∀e s' d,aU P E T X s' d->bw s s'->k e s'=O out->Q (ae e) d)->nC P E w0 I0 n c Q Zloc q:=by
 intro c;induction c with
 |seq a b x y=>
  intro hint s k q Q f i h l g;unfold FT at h;split at h
  .rename_i z A;simp only[eJ,aP]at f;refine vP λK B=>x z s _ q _ f.1 i h l λe s' d o m r=>?_;cases e with
   |normal=>exact B d (y A s' k d Q f.2 (i.trans m) r o λe s2 C D G H=>g e s2 C D (m.trans G) H)|exit id=>exact g (.exit id) s' d o m r
   |ret=>exact g .ret s' d o m r
  .split at h
   .rename_i p I;have:=Kc I
    grind [Qj]
   .cases h
  .exact kk L j v (kl L u j) w _ _ s k q Q f i h l g
 |_=>intro hint s k q Q f i h l g;exact kk L j v (kl L u j) w _ hint s k q Q f i h l g
include L in
theorem ZM(d:P.follows .mixedOrders=W)(g:∀E' e t,X.ty e=O t->kv P E' T X e t){f:bH}{fn:Func}{ps:Z Ty}{rs:Z RK}{a:V (an×Ty)}{esc:Z (Nat×Nat)}{hint:e9}{b:HL U.C ps->U.C 0->V (jm U a (HL U.C (rs.map RK.ty))×U.C 0)}(i:bJ P E T X)(j:P.funcs[f]?=O fn)(l:(fn.name== "runtime.NumGoroutine")=F)(m:fn.body=O c)(n:ps.length<=fn.ntmps)
  (o:eJ fn.ntmps c=W) (p:mH fn.ntmps fn.results.toList=W)
  (u:∀x h,HY X ps rs a esc fn.results.toList c hint x h=b x h):nu P E T f ps rs a (.st b):=
 CV L (ex:=λkx=>FT X kx esc c hint) i j l m n p (λA C w0 I0 sB r kx Zloc v w s k q Q y h z B=>Ti L d v g (λ_=>rfl) w c hint s k q Q o y h z B) u
end
end Go.X
namespace Go.Ev
open Go
section
variable{P:ai}{E:cd}{w0:af}{I0:aA}{n:Nat}{s:St}{a:Act}{w w':af}{I:aA}{be:Nat->V Nat}
def cd.rv (E:cd) (B:Nat) (o:Obj) (df:Z AV):cd where
 hS:=λw=>E.hS w/\¬E.cf w B/\w.heap[B]?=O o
 cf:=λw b=>E.cf w b∨b=B
 iU:=λw w' ⟨c,d,e⟩ a=>by
  obtain⟨g,h⟩:=E.iU w w' c λb f=>a b (.inl f)
  grind
 lt:=λw b ⟨c,d,e⟩ a=>by
  rcases a with a|rfl
  .exact E.lt w b c a
  grind
 qp:=E.qp
 cT:=E.cT
 ro:=E.ro
 it:=λ_=>B
 df:=df
def aJ.rv (h:aJ P E w0 I0 n s a w I be) {B:Nat} {o:Obj} {df:Z AV} (g:MG E w0 w I be s B) (x:w.heap[B]?=O o):aJ P (E.rv B o df) w0 I0 n s a w I be:=by
 have c:=h.since;refine⟨⟨c.os,c.tape,c.output,c.size,λk y f z=>c.block k y (λA=>f (.inl A)) z,λb l=>?_,⟨c.hS,g.cf,x⟩,c.oO,c.ar,c.IY,c.shape,c.new,c.lt,λp t f=>?_⟩,h.size,h.defers,h.ct,h.bD,h.inj,λd B' u i=>?_,h.ru,⟨h.aZ.h7,h.aZ.inj,λj B' v i=>?_,h.aZ.un,h.aZ.ro⟩⟩
 .rcases l with l|rfl
  .exact (c.cf b l).imp .inl id
  .exact .inr g.new
 .rcases f with f|f
  .exact c.off p t f
  .exact g.mem p t f
 .obtain ⟨q1,m,q,r⟩:=h.bR d B' u i;refine⟨q1,m,q,λf=>f.elim r λe=>g.box d u (by rw[i,e])⟩
 .obtain ⟨q1,m,q,r,C⟩:=h.aZ.bR j B' v i;exact⟨q1,m,q,λf=>f.elim r λe=>g.ob j v (by rw[i,e]),C⟩
theorem aJ.Tj {B:Nat} {o:Obj} {df:Z AV} (h:aJ P (E.rv B o df) w0 I0 n s a w I be) (x:w0.heap.size<=B):aJ P E w0 I0 n s a w I be/\MG E w0 w I be s B/\w.heap[B]?=O o:=by
 have c:=h.since;refine⟨⟨⟨c.os,c.tape,c.output,c.size,λk y f z=>c.block k y (λA=>A.elim f λe=>M) z,λb C=>?_,c.hS.1,c.oO,c.ar,c.IY,c.shape,c.new,c.lt,λp g f=>c.off p g (.inl f)⟩,h.size,h.defers,h.ct,h.bD,h.inj,λd B' i l=>?_,h.ru,⟨h.aZ.h7,h.aZ.inj,λj B' m l=>?_,h.aZ.un,h.aZ.ro⟩⟩,⟨x,(rr.1 c.hS.2.2).1,λp g e=>c.off p g (.inr e),c.hS.2.1,λd i q=>(h.bR d B i q).2.2.2 (.inr rfl),λj m q=>(h.aZ.bR j B m q).2.2.2.1 (.inr rfl)⟩,c.hS.2.2⟩
 .rcases c.cf b (.inl C)with(v|v)|v
  grind
  grind
  grind
 .obtain ⟨q1,r,t,u⟩:=h.bR d B' i l;exact⟨q1,r,t,λf=>u (.inl f)⟩
 .obtain ⟨q1,r,t,u,D⟩:=h.aZ.bR j B' m l;exact⟨q1,r,t,λf=>u (.inl f),D⟩
theorem aJ.Ke (h:aJ P E w0 I0 n s a w I be) (t:Nat) {u:cH} (d:t<n->bU P w I be s.b s.g (a.tmps.getD t undef) u):aJ P E w0 I0 n {s with r:=b8 s.r t u} a w I be:=
 ⟨h.since,h.size,h.defers,λb c=>by
  by_cases e:b=t;simp_all
  .simp only[aO _ _ e];exact h.ct b c,h.bD,h.inj,h.bR,h.ru,h.aZ⟩
theorem aJ.deferred (h:aJ P E w0 I0 n s a w I be) {d:Deferred} {f:bH} {vs:Array ag} {caps:Z AV} (b:d.target=.fn (.func f) vs) (c:d.args=#[]) (e:cy w I (.func (.func f) #[] vs) (.fn f caps)):
  aJ P E w0 I0 n {s with df:=.fn f caps::s.df} {a with defers:=d::a.defers} w I be:=
 ⟨h.since,h.size,⟨by simp[h.defers.1],λj d' x g i=>by
  cases j with
  |zero=>grind|succ j=>exact h.defers.2 j d' x (by grind) (by grind)⟩,h.ct,h.bD,h.inj,h.bR,h.ru,h.aZ⟩
end
end Go.Ev
namespace Go.X
open Go Go.Ev
def eA:Nat->bT->bT
 |0,c=>c|n+1,.seq _ b=>eA n b
 |_+1,c=>c
section
variable{U:cp}{α:Type}(X:gy U)(kx:o8 U->S U.C->V α)(esc:Z (Nat×Nat))
noncomputable def Dc:Nat->bT->S U.C->(S U.C->V α)->V α
 |0,_,s,k=>k s|n+1,.seq a b,s,k=>gX X kx esc a .leaf s λe s'=>match e with
  |.normal=>Dc n b s' k|_=>Y
 |_+1,_,_,_=>Y
end
section
variable{P:ai}{E E':cd}{U:cp}{T:dt U.C}{X:gy U}{w0:af}{I0:aA}{n:Nat}{α:Type}{out:α}{kx:o8 U->S U.C->V α}{esc:Z (Nat×Nat)}
variable(L:cD U T)
include L in
theorem yr(p:P.follows .mixedOrders=W)(g:bJ P E T X){sB:S U.C}(r:(∃k,sB.m k=W)->E.cT=F){Zloc:AV->St->Prop}(t:∀av d,XE P E T X sB kx out av d->Zloc av d):
  ∀(m:Nat)(c:bT)(s:S U.C)(k:S U.C->V α)(q:St)(Q:e7->St->Prop),eJ n c=W->bw sB s->Dc X kx esc m c s k=O out->aU P E T X s q->(∀s' d,aU P E T X s' d->bw s s'->k s'=O out->nC P E w0 I0 n (eA m c) Q Zloc d)->nC P E w0 I0 n c Q Zloc q
 |0,c,s,k,q,Q,f,i,h,j,l=>l s q j (.refl s) (by cases c<;>exact h)
 |m+1,c,s,k,q,Q,f,i,h,j,l=>by
  cases c with
  |seq a b=>
   simp only[eJ,aP]at f;have h:gX X kx esc a .leaf s (λe s'=>match e with
    |.normal=>Dc X kx esc m b s' k|_=>Y)=O out:=h
   refine vP λK v=>kk L g r (kl L p g) t a .leaf s _ q _ f.1 i h j λe s' d w u o=>?_;cases e with
   |normal=>exact v d (yr p g r t m b s' k d Q f.2 (i.trans u) o w λs2 x y z A=>l s2 x y (u.trans z) A)|exit id=>cases o
   |ret=>cases o
  |_=>cases h
theorem OQ{X':gy U}{s:S U.C}{q:St}(v:X'.ty=X.ty)(a:aU P E T X s q)(f:s.pl F=W):aU P E' T X' s {q with df:=E'.df}:=by
 simp only[S.pl,aP,di]at f;refine⟨λt=>AJ (it:=F) (λh=>by cases h) (a.ct t) ?_,λd=>?_,a.zo,a.Ez,a.heap,rfl⟩
 .rw[S.ib];cases b:aF s.r t with
  |none=>rfl|some e=>exact f.1 _ (gz (by rw[b]))
 .have g:=a.bD d;show oz P E' T X' s.b q.g s.tick (aF s.b d) (q.b d);cases b:aF s.b d with
  |none=>exact trivial|some e=>
   obtain⟨st,x⟩:=e;rw[b]at g;have l:=f.2 _ (gz b);cases x with
   |cells u rs=>obtain⟨j,b2,cs,m,n,o⟩:=g;exact⟨j,b2,cs,m,n,λi r c k p=>AJ (it:=F) (λh=>by cases h) (o i r c k p) (ph l r (bW k))⟩
   |br t e xs=>obtain⟨j,b2⟩:=g;exact⟨by grind,b2⟩
end
end Go.X
