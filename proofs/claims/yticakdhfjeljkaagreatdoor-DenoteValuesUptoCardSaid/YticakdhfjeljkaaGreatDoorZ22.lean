import Derived.Test.YticakdhfjeljkaaGreatDoorZ21
set_option linter.all false
set_option maxRecDepth 20000
open Option renaming some->O,none->Y
open Bool renaming true->W,false->F
open Go.Proofs.Tryz
noncomputable section
namespace Go.Proofs.Mo
open Go Go.Ev Go.X
variable{α:Type}{n:cY}{f:bP->Hp->V ((Int×aa)×Hp)}{env:Z jT}{l:Int}{i:Nat}
section
variable{N:Nat}(hN:1073741824<=N){t:V Nat}{G:Gd}{B:yX N t G.β}{r j:Nat}{bj:Int}
variable{rec:QX}{dB:Int->Z jT->Int->Rs Va}{S:Int->Prop}
theorem td{p:α->aa}{l:Z α}{x:α}(a:l[i]?=O x)(h:(l.take i).find? p=Y):(p x=W->l.find? p=O x)/\(p x=F->(l.take (i+1)).find? p=Y):=by
 have e:l.take (i+1)=l.take i++[x]:=by rw[px,a];rfl
 constructor
 .intro q;have b:(l.take (i+1)).find? p=O x:=by grind
  grind [A7]
 grind
def Gl(p:Int->aa)(k:Int)(b a:Z Int)(l:Int):tw p (k::b) a l=if l=0 then .ka 100 else tw p b (if p k=W then a++[k]else a) (l-1):=rfl
include hN
theorem aiJ(X:tx G)(n0:nn G.m)(s0:dE G.m=W)(t0:bj<=1048576)(o0:EK B r j bj rec dB S)(u0:oK S n 1)(e1:8<=n.kind)(f1:n.kind<=13){h:Hp}(w0:vo f env)(h0:0<=l)(x0:l<=bj)(y0:PR B r j bj h l):
  T (pt N rec (O r,n,f) h) (RQ B r j bj Va.v ((je dB n 0 env l).bind λv l=>(Lv G v l).bind λx l=>QV G n x l)):=by
 have a:=X.ready.sorted;obtain⟨k,A0,d0,B0⟩:=hj u0 0 M;have d0:ax n.aD 0=O k:=d0;rw[B0];unfold pt;dsimp only;rw[d0];simp only[aE];have C0:=o0.ok k env l h0;refine nz C0 (UW a o0 A0 w0 h0 x0 y0) Gk λx o y v _ D0 g0 i1 c=>?_;obtain⟨⟨j1,_,E0⟩,_⟩:=yW D0;simp only[id_eq];have a0:=(gT E0).1;obtain⟨m1,d2,n1⟩:=X.nd x a0;have b0:=n0.node x a0;unfold QV;apply bt<;>intro e
 .rw[aq e];refine aS (λ_=>x.bd.find? (λp=>p.name==n.text)=Y) (λJ t=>?_) λ_ e0=>?_
  .refine bl (λs=>0<=s.1/\s.1<=x.bd.length/\(x.bd.take s.1.toNat).find? (λp=>p.name==n.text)=Y) (λs=>(x.bd.length-s.1).toNat) ⟨aH,aH,aH⟩ (by have:=b0.bd;grind) ?_;rintro c0 ⟨p,u⟩ ⟨g,D,i⟩ E;have G0:=b0.bd;dsimp only at g D i⊢;refine a6 (λm=>aL g m λz A K=>?_) λm=>t _ ?_
   .have fs:=td K i;refine aw (λq=>?_) λq=>E _ ⟨?_,?_,?_⟩ ?_
    .rw[fs.1 q];exact ad ⟨rfl,c⟩
    all_goals dsimp only;rw[b7 M M]
    grind
    grind
    .rw[(M:(p+1).toNat=p.toNat+1)]
     grind
    grind
   grind [de]
  .rw[e0];exact ad ⟨rfl,c⟩
 rw[ao e];apply bt<;>intro e
 .rw[aq e];refine aS (λs=>s.1=(5,0,[],F,0,x.aD.filter λk=>re G k==n.text)) (λJ t=>?_) λs a=>?_
  .refine bl (λs=>0<=s.1.1/\s.1.1<=x.aD.length/\s.1.2=(5,0,[],F,0,(x.aD.take s.1.1.toNat).filter λk=>re G k==n.text)) (λs=>(x.aD.length-s.1.1).toNat) ⟨aH,aH,aH⟩ (by grind) ?_;rintro c0 ⟨⟨p,s2⟩,u⟩ ⟨g,D,i⟩ E;dsimp only at g D i;subst i;dsimp only;refine a6 (λm=>aS (λs=>s.1=(5,0,[],F,0,(x.aD.take (p.toNat+1)).filter λk=>re G k==n.text)) (λH0 R=>aL g m λz A K=>?_) λs a=>?_) λm=>t _ ?_
   .simp only[aE,c.run,dX,c.vy,IC a];have o1:x.aD.take (p.toNat+1)=x.aD.take p.toNat++[z]:=by rw[px,K];rfl
    have f0:((cE G.m z).getD (Nd.mk 0 [] 0 [] [] [] [])).role=re G z:=by unfold re;cases cE G.m z<;>rfl
    rw[f0];refine aw (λq=>bO ?_ (R _ ?_)) λq=>R _ ?_
    .refine cq ?_ ?_;all_goals
      have:=NK (λk=>re G k==n.text) (x.aD.take p.toNat);rw[tI]at this;simp only[tH];omega
    grind
    grind
   .obtain ⟨i0,I0⟩:=s;dsimp only at a;subst a;refine E _ ⟨?_,?_,?_⟩ ?_;all_goals dsimp only;rw[b7 M M]
    grind
    grind
    grind
    grind
   grind [de]
  .obtain ⟨i0,I0⟩:=s;dsimp only at a;subst a;exact ad ⟨rfl,c⟩
 rw[ao e];apply bt<;>intro e
 .rw[aq e];refine aS (λ_=>x.bK.find? (λr=>r.role==n.text&&(cE G.m r.target).isSome)=Y) (λJ t=>?_) λ_ e0=>?_
  .refine bl (λs=>0<=s.1/\s.1<=x.bK.length/\(x.bK.take s.1.toNat).find? (λr=>r.role==n.text&&(cE G.m r.target).isSome)=Y) (λs=>(x.bK.length-s.1).toNat) ⟨aH,aH,aH⟩ (by have:=b0.bK;grind) ?_;rintro c0 ⟨p,u⟩ ⟨g,D,i⟩ E;have G0:=b0.bK;dsimp only at g D i⊢;refine a6 (λm=>aL g m λz A K=>?_) λm=>t _ ?_
   .have fs:=td K i;have p0:(z.role==n.text&&(cE G.m z.target).isSome)=F->T (c0 (IntKind.i64.wrap (p+1),())) (RQ B r j bj Va.v (.ok (.vn (((x.bK.find? λr=>r.role==n.text&&(cE G.m r.target).isSome).map Rf.target).getD 0)) o)):=λq=>by
     refine E _ ⟨?_,?_,?_⟩ ?_;all_goals dsimp only;rw[b7 M M]
     grind
     grind
     .rw[(M:(p+1).toNat=p.toNat+1)]
      grind
     grind
    simp only[aE,c.run,dX,c.vy,IC a];refine aw (λq1=>aw (λH=>?_) λH=>p0 (by grind)) λq1=>p0 (by grind);rw[fs.1 (by grind)];exact ad ⟨rfl,c⟩
   grind [de]
  .rw[e0];exact ad ⟨rfl,c⟩
 rw[ao e];apply bt<;>intro e
 .rw[aq e];exact ad ⟨rfl,c⟩
 rw[ao e];apply bt<;>intro e
 .rw[aq e];simp only[aE,c.run];refine aB (YV c x.au n.text) λz A=>ad ⟨?_,A.2⟩;rw[A.1];rfl
 rw[ao e];obtain⟨ix,J0,rfl⟩:=hB a0;simp only[aE,c.run];refine aS (λs=>∃acc d,s.1=(5,0,[],F,0,acc)/\PR B r j bj s.2 d/\tw (λk=>G.β (fk G k) n.text) (gr G.m 64 G.m.aj[ix].iD) [] o=.ok (.vl acc) d) (λJ t=>?_) λs a=>?_
 .refine aB (adN hN n0 s0 X.Gi J0 y.2) λz A=>?_;obtain⟨K0,L0⟩:=A;have N0:PR B r j bj z.2 o:=by rw[L0];exact c.same rfl rfl rfl rfl rfl rfl rfl
  rw[K0];have P0:=X.pre _ a0;generalize gr G.m 64 G.m.aj[ix].iD=C at P0 t⊢;refine bl (λs=>0<=s.1.1/\s.1.1<=C.length/\∃acc d,s.1.2=(5,0,[],F,0,acc)/\PR B r j bj s.2 d/\0<=d/\d<=o/\acc.length<=s.1.1.toNat/\tw (λk=>G.β (fk G k) n.text) C [] o=tw (λk=>G.β (fk G k) n.text) (C.drop s.1.1.toNat) acc d) (λs=>(C.length-s.1.1).toNat) ⟨aH,aH,[],o,rfl,N0,g0,gY _,aH,aH⟩ (by grind) ?_;rintro c0 ⟨⟨p,s2⟩,p1⟩ ⟨g,D,acc,d,i,j0,Q0,r1,R0,I⟩ E;dsimp only at g D i j0 R0 I;subst i;dsimp only;refine a6 (λm=>aS (λs=>∃U L,s.1=(5,0,[],F,0,U)/\PR B r j bj s.2 L/\0<=L/\L<=o/\U.length<=p.toNat+1/\tw (λk=>G.β (fk G k) n.text) C [] o=tw (λk=>G.β (fk G k) n.text) (C.drop (p.toNat+1)) U L) (λH0 R=>aL g m λP A K=>?_) λs a=>?_) λm=>t _ ?_
  .have S0:C.drop p.toNat=P::C.drop (p.toNat+1):=by grind [cr,oS]
   rw[S0]at I;refine aB (UT j0 Q0 M t0) λw Q=>?_;rw[Gl]at I;rw[I];by_cases k0:d=0
   .rw[aq k0]at Q⊢;have Q:w.1=.error ⟨100⟩:=Q;rw[Q];exact ad rfl
   .rw[ao k0]at Q⊢;rw[ao k0]at I;obtain⟨T0,l0⟩:=(Q:w.1=.ok ()/\PR B r j bj w.2 (d-1))
    rw[T0,<-I];simp only[eG,aE,l0.run,dX,l0.vy,IC a];have f0:((cE G.m P).getD (Nd.mk 0 [] 0 [] [] [] [])).au=fk G P:=by unfold fk;cases cE G.m P<;>rfl
    rw[f0];refine aB (YV l0 (fk G P) n.text) λb U0=>?_;obtain⟨X0,r0⟩:=U0;rw[X0];refine aw (λq=>bO (cq (by grind) (by grind)) (R _ ⟨acc++[P],d-1,rfl,r0,M,M,by grind,?_⟩)) λq=>R _ ⟨acc,d-1,rfl,r0,M,M,M,?_⟩
    grind
    grind
  .obtain ⟨U,L,q1,H,m0,a1,t1,u1⟩:=a;obtain⟨i0,b1⟩:=s;dsimp only at q1 H;subst q1;dsimp only;have c1:(IntKind.i64.wrap (p+1))=p+1:=b7 M M;rw[c1];have v1:(p+1).toNat=p.toNat+1:=M;refine E _ ⟨by grind,by grind,U,L,rfl,H,m0,a1,by grind,by grind⟩ (by grind)
  .refine ⟨acc,d,rfl,j0,?_⟩;rw[I,y8 M];rfl
 .obtain ⟨acc,d,q1,H,m0⟩:=a;obtain⟨i0,b1⟩:=s;dsimp only at q1 H;subst q1;rw[m0];exact ad ⟨rfl,H⟩
end
section
variable{N:Nat}(hN:1073741824<=N){t:V Nat}{G:Gd}{B:yX N t G.β}{r j:Nat}{bj:Int}
variable{rec:QX}{dB:Int->Z jT->Int->Rs Va}{S:Int->Prop}
def rf(f:Int->Int->Rs Va)(k:Int)(x:Int)(xs a:Z Int)(c l:Int):kP f k (x::xs) a c l=if l=0 then .ka 100 else(f x (l-1)).bind λv l=>
 if k=34 then(YU v l).bind λn l=>if cG (c+n)then kP f k xs a (c+n) l else .ka 101
 else(KZ v l).bind λb l=>
  if k=31/\b=W then .ok (.vb W) l else if k=32/\b=F then .ok (.vb F) l
  else kP f k xs (if k=33/\b=W then a++[x]else a) c l:=rfl
include hN
theorem Ns{Vloc:Type}(e:Vloc->Z Int->Int->Prop){xs:Z Int}{kf:Int->Int->Rs Va}{k c:Int}(P:xs.length<=1048576){f:(((Int×Vloc)×Hp)->V ((Except cV dw)×Hp))->((Int×Vloc)×Hp)->V ((Except cV dw)×Hp)}{v0:Vloc}{h0:Hp}
  (u:e v0 [] 0) (s:PR B r j bj h0 c) (w:0<=c)
  (step:∀(m:((Int×Vloc)×Hp)->V ((Except cV dw)×Hp))(p:Nat) v h x a b l,p<xs.length->ax xs (p:Int)=O x->e v a b->PR B r j bj h l->0<=l->l<=c->cG b->a.length<=p->
    (∀n o g i d,e n g i->PR B r j bj o d->0<=d->d<=l->cG i->g.length<=p+1->T (m ((IntKind.i64.wrap ((p:Int)+1),n),o)) (RQ B r j bj Va.v (kP kf k (xs.drop (p+1)) g i d)))->
    T (f m (((p:Int),v),h)) (RQ B r j bj Va.v (kP kf k (x::xs.drop (p+1)) a b l)))
  (y:∀(m:((Int×Vloc)×Hp)->V ((Except cV dw)×Hp)) v h a b l,e v a b->PR B r j bj h l->T (f m (((xs.length:Int),v),h)) (RQ B r j bj Va.v (.ok (Pm k a b) l))):T (aQ f N ((0,v0),h0)) (RQ B r j bj Va.v (kP kf k xs [] 0 c)):=by
 have z:∀(Mloc p:Nat) v h a b l,xs.length-p<Mloc->p<=xs.length->e v a b->PR B r j bj h l->0<=l->l<=c->cG b->a.length<=p->T (aQ f Mloc (((p:Int),v),h)) (RQ B r j bj Va.v (kP kf k (xs.drop p) a b l)):=λMloc=>by
  induction Mloc with
  |zero=>grind|succ Mloc A=>
   intro p v h a b l Q s q1 t C D E G;by_cases q:p<xs.length
   .rw[oS q];refine step _ p v h xs[p] a b l q (dq q) q1 t C D E G λn o g i d H I J R K L=>?_;rw[b7 M M,(M:((p:Int)+1)=((p+1:Nat):Int))];exact A (p+1) n o g i d M M H I J M K L
   .have:p=xs.length:=M;subst this;rw[y8 (bq _)];exact y _ v h a b l q1 t
 have:=z N 0 v0 h0 [] 0 c M M u s w (gY _) b9 aH
 grind
theorem aiK(D0:tx G)(Q:bj<=1048576)(i:EK B r j bj rec dB S)(j0:oK S n 2)(E0:31<=n.kind)(G0:n.kind<=34){h:Hp}(t:vo f env)(h0:0<=l)(R:l<=bj)(U:PR B r j bj h l):
  T (F54 N rec (O r,n,f) h) (RQ B r j bj Va.v ((je dB n 0 env l).bind λv l=>(UO v l).bind λxs l=>kP (λx l=>je dB n 1 (env++[⟨n.text,x⟩]) l) n.kind xs [] 0 l)):=by
 obtain⟨k,X,a0,u0⟩:=hj j0 0 M;obtain⟨u,b0,c0,H0⟩:=hj j0 1 M;have a0:ax n.aD 0=O k:=a0;have c0:ax n.aD 1=O u:=c0;rw[u0];have w0:(λx l=>je dB n 1 (env++[⟨n.text,x⟩]) l)=λx l=>dB u (env++[⟨n.text,x⟩]) l:=by
  funext x l
  grind
 rw[w0];have d0:=i.ok k env l h0;have I0:n.kind=33∨n.kind=34∨n.kind=31∨n.kind=32:=M;unfold F54;dsimp only;rw[a0,c0];simp only[aE];apply bt<;>intro e
 .
  rw[e];refine nz d0 (Ld i X t h0 R U) Lf λxs k0 y v hv z A l0 C=>?_;obtain⟨rfl,_⟩:=vm z;simp only[id_eq];have D:xs.length<=1048576:=hv;refine Ns hN (kf:=λx l=>dB u (env++[⟨n.text,x⟩]) l) (k:=33) (Vloc:=Int×Int×bP×aa×Int×Z Int) (v0:=(5,0,[],F,0,[])) (λv m sum=>v=(5,0,[],F,0,m)) D rfl C A ?_ ?_
  .rintro E p v h x m sum c m0 H rfl d I n0 P o0 e0;dsimp only;rw[rf];have g:decide ((p:Int)<(xs.length:Int))=W:=by grind
   rw[g,aW,H,aE];refine aB (UT d I M Q) λw a=>?_;by_cases o:c=0
   .rw[aq o]at a⊢;have a:w.1=.error ⟨100⟩:=a;rw[a];exact ad rfl
   rw[ao o]at a⊢;obtain⟨J,K⟩:=(a:w.1=.ok ()/\PR B r j bj w.2 (c-1))
   rw[J];simp only[eG,show((33:Int)==34)=F from rfl,show((33:Int)==33)=W from rfl,aW,aX,fQ,(b9:¬(33:Int)=34),(b9:¬(33:Int)=31),(b9:¬(33:Int)=32),cA,false_and,mW];refine nz (i.ok _ _ _ M) (QY i b0 (DX t n x) M M K) ud λb p0 q0 r0 _ _ f0 s0 L=>?_;simp only[id_eq];refine aw (λq=>bO (cq dx dx) ?_) λq=>?_
   .rw[aq q];exact e0 _ _ _ _ _ rfl L f0 M P dx
   grind
  .rintro E v h m sum c rfl d;dsimp only;have g:decide ((xs.length:Int)<(xs.length:Int))=F:=aH;rw[g,aX];exact ad ⟨rfl,d⟩
 apply bt<;>intro e
 .
  rw[e];show T ((EH N rec (O r,k,f) h).bind _) _;refine nz d0 (Ld i X t h0 R U) Lf λxs k0 y v hv z A l0 C=>?_;obtain⟨rfl,_⟩:=vm z;simp only[id_eq];have D:xs.length<=1048576:=hv;refine Ns hN (kf:=λx l=>dB u (env++[⟨n.text,x⟩]) l) (k:=34) (Vloc:=Int×Int×bP×aa×Int×Z Int) (v0:=(1,0,[],F,0,[])) (λv m sum=>v=(1,sum,[],F,0,[])) D rfl C A ?_ ?_
  .rintro E p v h x m sum c m0 H rfl d I n0 P o0 e0;dsimp only;rw[rf];have g:decide ((p:Int)<(xs.length:Int))=W:=by grind
   rw[g,aW,H,aE];refine aB (UT d I M Q) λw a=>?_;by_cases o:c=0
   .rw[aq o]at a⊢;have a:w.1=.error ⟨100⟩:=a;rw[a];exact ad rfl
   rw[ao o]at a⊢;obtain⟨J,K⟩:=(a:w.1=.ok ()/\PR B r j bj w.2 (c-1))
   rw[J];simp only[eG,show((34:Int)==34)=W from rfl,aW,cm];refine nz (i.ok _ _ _ M) (YW i b0 (DX t n x) M M K) YX λb p0 q0 r0 x0 y0 f0 s0 L=>?_;obtain⟨rfl,_⟩:=DU y0;simp only[id_eq];rw[Yy N P x0,aE];by_cases t0:cG (sum+b)
   grind
   .rw[ao t0,ao t0];exact ad rfl
  .rintro E v h m sum c rfl d;dsimp only;have g:decide ((xs.length:Int)<(xs.length:Int))=F:=aH;rw[g,aX];exact ad ⟨rfl,d⟩
 .
  refine nz d0 (Ld i X t h0 R U) Lf λxs k0 y v hv z A l0 C=>?_;obtain⟨rfl,_⟩:=vm z;simp only[id_eq];have D:xs.length<=1048576:=hv;refine Ns hN (kf:=λx l=>dB u (env++[⟨n.text,x⟩]) l) (k:=n.kind) (Vloc:=Int×Int×bP×aa×Int×Z Int) (v0:=(3,0,[],n.kind==32,0,[])) (λv m sum=>v=(3,0,[],n.kind==32,0,[])) D rfl C A ?_ ?_
  .rintro E p v h x m sum c m0 H rfl d I n0 P o0 e0;dsimp only;rw[rf];have g:decide ((p:Int)<(xs.length:Int))=W:=by grind
   rw[g,aW,H,aE];refine aB (UT d I M Q) λw a=>?_;by_cases o:c=0
   .rw[aq o]at a⊢;have a:w.1=.error ⟨100⟩:=a;rw[a];exact ad rfl
   rw[ao o]at a⊢;obtain⟨J,K⟩:=(a:w.1=.ok ()/\PR B r j bj w.2 (c-1))
   rw[J];have A0:(n.kind==34)=F:=by grind
   have B0:(n.kind==33)=F:=by grind
   simp only[eG,A0,B0,aW,aX,tA,ao e];refine nz (i.ok _ _ _ M) (QY i b0 (DX t n x) M M K) ud λb p0 q0 r0 _ _ f0 s0 L=>?_;simp only[id_eq];have C0:¬(n.kind=33/\b=W):=M;rw[ao C0];rcases(show n.kind=31∨n.kind=32 by omega)with s|s
   .have i0:(n.kind==32)=F:=by grind
    rw[i0];cases b with
    |true=>rw[aq ⟨s,rfl⟩];exact ad ⟨rfl,L⟩|false=>grind
   .have i0:(n.kind==32)=W:=by grind
    rw[i0];cases b with
    |true=>grind|false=>rw[ao aH,aq ⟨s,rfl⟩];exact ad ⟨rfl,L⟩
  .rintro E v h m sum c rfl d;dsimp only;have g:decide ((xs.length:Int)<(xs.length:Int))=F:=aH;rw[g,aX];refine ad ⟨?_,d⟩;rcases(show n.kind=31∨n.kind=32 by omega)with s|s
   .rw[s];rfl
   .rw[s];rfl
end
def eX(k:Int):Nat:=if k<=7 then 0 else if k<=19 then 1 else if k<=28 then 2 else if k=29 then 1 else if k=30 then 3 else 2
structure WfE(E:List cY):Prop where
 kind:∀n∈E,1<=n.kind/\n.kind<=34
 aD:∀(i:Nat) n,E[i]?=O n->n.aD.length=eX n.kind/\∀k∈n.aD,(i:Int)<k/\k<E.length
section
variable{N:Nat}(hN:1073741824<=N){t:V Nat}{G:Gd}{B:yX N t G.β}{r j:Nat}{bj:Int}
variable{rec:QX}{dB:Int->Z jT->Int->Rs Va}{S:Int->Prop}
def adO(o:Rs α):o.bind Rs.ok=o:=by cases o<;>rfl
def Gm{γ:Type}{ρ:α->γ}{o:Rs α}{X:V ((Except cV γ)×Hp)}(h:T X (RQ B r j bj ρ o)):T (X.bind λy=>eG y.1 (λe=>O (.error e,y.2)) λv=>O (.ok v,y.2)) (RQ B r j bj ρ o):=by rw[<-adO o];refine aB h λy b=>ID b λa l _ c=>ad ⟨rfl,c⟩
def UX{o:Except Int Va}{l:Int}{h:Hp}(a:PR B r j bj h l):T ((O (xr o)).bind λy=>eG y (λe=>O (.error e,h)) λv=>O (.ok v,h)) (RQ B r j bj Va.v (match o with
  |.error e=>.ka e|.ok v=>.ok v l)):=by
 rw[aE];cases o with
 |error e=>exact ad rfl|ok v=>exact ad ⟨rfl,a⟩
include hN
theorem adP(L:tx G)(j0:nn G.m)(l0:dE G.m=W)(P:bj<=1048576)(k:EK B r j bj rec dB S)(m0:G.E[i]?=O n)(d:oK S n (eX n.kind))(n0:1<=n.kind/\n.kind<=34){h:Hp}(m:vo f env)(h0:0<=l)(s:l<=bj)(o:PR B r j bj h l):
  T (W2 N rec (O r,(i:Int),f) h) (RQ B r j bj Va.v (if l=0 then .ka 100 else DT G dB n env (l-1))):=by
 unfold W2;dsimp only;refine aB (UT o h0 s P) λw D=>?_;by_cases R:l=0
 .rw[aq R]at D⊢;have D:w.1=.error ⟨100⟩:=D;rw[D];exact ad rfl
 rw[ao R]at D⊢;obtain⟨o0,o⟩:=(D:w.1=.ok ()/\PR B r j bj w.2 (l-1))
 have h0:0<=l-1:=M;have s:l-1<=bj:=M;generalize l-1=l at o h0 s⊢;have C0:i<G.E.length:=(cr.1 m0).1;have p0:ax G.E (i:Int)=O n:=by grind [dq,cX]
 rw[o0];simp only[eG,aE,o.run,p0];have J:=k.ok;unfold DT;apply eZ<;>intro e
 .rw[aq e];exact Gm (aiH o m n e)
 rw[ao M];apply eZ<;>intro U
 .rw[aq U];have d:oK S n 1:=by rw[show eX n.kind=1 by unfold eX;grind]at d;grind
  exact Gm (aiJ hN L j0 l0 P k d M U m h0 s o)
 rw[ao M];apply eZ<;>intro X
 .rw[aq X];have d:oK S n 1:=by rw[show eX n.kind=1 by unfold eX;grind]at d;grind
  exact Gm (aiI hN L.ready.sorted k d M X m h0 s o)
 rw[ao M];apply eZ<;>intro q0
 .rw[aq q0];have d:oK S n 2:=by rw[show eX n.kind=2 by unfold eX;grind]at d;grind
  obtain⟨x,A,g,C⟩:=hj d 0 M;obtain⟨E,H,p,I⟩:=hj d 1 M;have g:ax n.aD 0=O x:=g;have p:ax n.aD 1=O E:=p;rw[g,p,aE,C];refine DY k A m h0 s o λa u y r0 t K q=>?_;rw[aE,I];refine DY k H m t M q λb D0 E0 s0 G0 H0 a0=>?_;apply eZ<;>intro b0
  .rw[aiE N M r0 s0];exact UX a0
  .rw[aiF N M a b];exact UX a0
 rw[ao M];have c0:∀(c:aa),c=(n.kind==28)->oK S n 2->T ((ax n.aD 0).bind λz=>(M8 N rec (O r,z,f) w.2).bind λy=>eG y.1 (λe=>O (.error e,y.2)) λt0=>bif !(t0==!c)then(sZ N c).bind λu0=>O (.ok u0,y.2)else(ax n.aD 1).bind λz=>(M8 N rec (O r,z,f) y.2).bind λy=>eG y.1 (λe=>O (.error e,y.2)) λv=>(sZ N v).bind λw0=>O (.ok w0,y.2))
   (RQ B r j bj Va.v ((je dB n 0 env l).bind λv l=>(KZ v l).bind λb l=>if b=(n.kind==28)then .ok (.vb b) l else(je dB n 1 env l).bind λv l=>(KZ v l).bind λc l=>.ok (.vb c) l)):=λc d0 d=>by
  obtain⟨x,A,g,C⟩:=hj d 0 M;obtain⟨E,H,p,I⟩:=hj d 1 M;have g:ax n.aD 0=O x:=g;have p:ax n.aD 1=O E:=p;rw[g,p,aE,C];refine nz (J _ _ _ h0) (QY k A m h0 s o) ud λb u y v _ _ t K q=>?_;simp only[id_eq];by_cases e:b=(n.kind==28)
  .have x0:b=c:=e.trans d0.symm;rw[aq e,x0];have:(!(c==!c))=W:=by grind
   rw[this,aW];exact ad ⟨rfl,q⟩
  .rw[ao e];have:(!(b==!c))=F:=by rw[<-d0]at e;cases b<;>cases c<;>simp_all
   rw[this,aX,aE,I];refine nz (J _ _ _ t) (QY k H m t M q) ud λb u y v _ _ t K q=>ad ⟨rfl,q⟩
 apply bt<;>intro b0
 .rw[aq M];have d:oK S n 2:=by rw[show eX n.kind=2 by unfold eX;grind]at d;grind
  have:=c0 F (by grind) d;rw[b0]at this⊢;exact this
 apply bt<;>intro y0
 .rw[aq M];have d:oK S n 2:=by rw[show eX n.kind=2 by unfold eX;grind]at d;grind
  have:=c0 W (by grind) d;rw[y0]at this⊢;exact this
 rw[ao M];apply bt<;>intro e0
 .rw[aq e0];have d:oK S n 1:=by grind [eX]
  obtain⟨x,A,g,C⟩:=hj d 0 M;have g:ax n.aD 0=O x:=g;rw[g,aE,C];refine nz (J _ _ _ h0) (QY k A m h0 s o) ud λb u y v _ _ t K q=>ad ⟨rfl,q⟩
 rw[ao e0];apply bt<;>intro f0
 .rw[aq f0];have d:oK S n 3:=by grind [eX]
  obtain⟨x,A,g,C⟩:=hj d 0 M;obtain⟨E,H,p,I⟩:=hj d 1 M;obtain⟨i0,A0,Q,B0⟩:=hj d 2 M;have g:ax n.aD 0=O x:=g;have p:ax n.aD 1=O E:=p;have Q:ax n.aD 2=O i0:=Q;rw[g,p,Q,aE,C];refine nz (J _ _ _ h0) (QY k A m h0 s o) ud λb u y v _ _ t K q=>?_;cases b with
  |true=>show T _ (RQ B r j bj Va.v (je dB n 1 env u));rw[I];exact Gm (k.run E f env y.2 u H m t M q)|false=>
   show T _ (RQ B r j bj Va.v (je dB n 2 env u));rw[B0];exact Gm (k.run i0 f env y.2 u A0 m t M q)
 rw[ao f0];have d:oK S n 2:=by rw[show eX n.kind=2 by unfold eX;grind]at d;grind
 exact Gm (aiK hN L P k d M n0.2 m h0 s o)
theorem aiL(b:tx G)(o:nn G.m)(p:dE G.m=W)(s:bj<=1048576)(c:WfE G.E):∀(d Mloc:Nat)(i:Nat)(f:bP->Hp->V ((Int×aa)×Hp))(env:Z jT)(h:Hp)(l:Int),d<=Mloc->i<G.E.length->G.E.length-i<=d->vo f env->0<=l->l<=bj->PR B r j bj h l->
  T (Av N Mloc (O r,(i:Int),f) h) (RQ B r j bj Va.v (La G d (i:Int) env l)):=λd=>by
 induction d with
 |zero=>grind|succ d w=>
  intro Mloc i f env h l x hi y e h0 g m;obtain⟨a,rfl⟩:∃a,Mloc=a+1:=⟨Mloc-1,M⟩
  have n:G.E[i]?=O G.E[i]:=cX hi;obtain⟨t,u⟩:=c.aD i _ n;have v:EK B r j bj (Av N a) (La G d) (λk=>(i:Int)<k/\k<G.E.length):=⟨λk f env h l z e h0 g m=>by
   obtain⟨q,rfl⟩:=oR (show 0<=k by omega)
   grind,λk env l h0=>DW b d k env l h0⟩
  have:=adP hN b o p s v n ⟨t,u⟩ (c.kind _ (fR hi)) e h0 g m;show T (W2 N (Av N a) (O r,(i:Int),f) h) _
  grind [La,hx]
end
end Go.Proofs.Mo
namespace Go.Proofs.Mo
open Go Go.Ev Go.X
open Go.IntKind renaming i64->Wk
def tf{α:Type}{l:Z α}{n:Nat}{x:α}(h:l[n]?=O x):ax l (n:Int)=O x:=by obtain⟨a,rfl⟩:=cr.1 h;exact dq a
theorem Gn{f:Nat->V (Nat×Nat)}(g:∀i e j,f i=O (e,j)->i<e):∀(c:Z Int)(next nG:Nat) r,hO f c next nG=O r->∀k∈c,(next:Int)<=k/\(f k.toNat).isSome=W
 |[],_,_,_,_,k,d=>by grind|x::c,next,nG,r,h,k,d=>by
  simp only[hO]at h;split at h
  .rename_i n;obtain⟨y,l,m⟩:=mT.1 h;cases d with
   |head=>grind|tail _ d=>
    have:=g next y.1 y.2 l;obtain⟨a,b⟩:=Gn g c y.1 _ r m k d
    grind
  grind
def Pp{E:Z cY}{c:Nat}(h:(kd E c).isSome=W):c<E.length:=by obtain⟨r,d⟩:=um.1 h;obtain⟨e,f⟩:=r;have a:=Dz E cY.aD pK d;have b:=sub_le E cY.aD pK d;omega
theorem QZ{E:Z cY}{c:Nat}(g:E.length<=256)(b:c<E.length)(h:kd E c=Y):qi E=80:=by
 unfold qi;rw[ao M];cases d:kd E 0 with
 |none=>rfl|some r=>
  obtain⟨e,f⟩:=r;dsimp only;by_cases a:e≠E.length
  grind
  .have a:e=E.length:=M;subst a;have:=yI E cY.aD pK E.length 0 _ f d c M b
   grind
theorem Lg{E:Z cY}(h:qi E=0):1<=E.length/\E.length<=256/\WfE E:=by
 unfold qi at h;by_cases p:256<E.length
 grind
 rw[ao p]at h;cases g:kd E 0 with
 |none=>grind|some r=>
  obtain⟨e,l⟩:=r;rw[g]at h;dsimp only at h;by_cases m:e≠E.length
  grind
  have m:e=E.length:=M;subst m;have q:∀j,j<E.length->(kd E j).isSome=W:=λj s=>yI E cY.aD pK E.length 0 _ l g j M s;have o:∀(i:Nat) n,E[i]?=O n->pK n=W/\∃r,hO (kd E) n.aD (i+1) 0=O r:=λi n hi=>by
   have t:i<E.length:=(cr.1 hi).1;obtain⟨r,f⟩:=um.1 (q i t);rw[kd,yH,hi,aE]at f
   grind
  have u:∀n,pK n=W->(1<=n.kind/\n.kind<=34)/\n.aD.length=eX n.kind:=λn d=>by
   unfold pK at d;simp only[aP,gE]at d;have:=d.1;unfold qZ at this;unfold eX
   grind
  have h0:1<=E.length:=Pp (c:=0) (by grind);exact⟨h0,M,λn d=>by grind [List.getElem?_of_mem],λi n hi=>⟨(u n (o i n hi).1).2,λk v=>by obtain⟨r,f⟩:=(o i n hi).2;obtain⟨a,b⟩:=Gn (λi e l h=>(Dz E cY.aD pK h).1) _ _ _ r f k v;have:=Pp b;omega⟩⟩
section
variable{N:Nat}(hN:1073741824<=N)
include hN
theorem aiM(l:oF)(E:∀n∈l.aj,n.text.length<=1048576/\n.aD.length<=1048576):T (F23 N l) λr=>r=qi l.aj:=by
 unfold F23;refine a6 (λR=>ad (by unfold qi;grind)) λR=>?_;refine bt (λh0=>ad ?_) λh0=>?_
 .have e:l.aj=[]:=by simp_all
  rw[e];rfl
 have G:(decide (0<=(l.aj.length:Int))&&cF 8 ((l.aj.length:Int).toNat) 281474976710656)=W:=by grind [hx,cq]
 refine bO G (bO G ?_);rw[hx];obtain⟨L,S⟩:∃L,L=l.aj:=⟨_,rfl⟩
 rw[<-S]at R h0 E⊢;clear S G;refine aS (λs=>∃(sz d:Nat),s.1.1[0]?=O (sz:Int)/\s.1.2[0]?=O (d:Int)/\kd L 0=O (sz,d)) (λJ j0=>?_) ?_
 .refine bl (λs=>∃c:Nat,s.1.1+1=(c:Int)/\c<=L.length/\s.1.2.1.length=L.length/\s.1.2.2.length=L.length/\(∀j,j<c->s.1.2.2[j]?=O 0)/\
    ∀j,c<=j->j<L.length->∃(sz d:Nat),s.1.2.1[j]?=O (sz:Int)/\s.1.2.2[j]?=O (d:Int)/\kd L j=O (j+sz,d))
   (λs=>(s.1.1+1).toNat) ⟨L.length,by grind [b7],bq _,aH,aH,λj m=>by grind,λj k0 U=>M⟩ (by grind [b7]) ?_
  rintro E0 ⟨⟨i,size,A⟩,u⟩ ⟨c,l0,G0,m0,X,a0,H⟩ n0;dsimp only at l0 m0 X a0 H⊢;refine eZ (λhi=>?_) λhi=>j0 _ ?_
  .obtain ⟨c,rfl⟩:∃o0,c=o0+1:=⟨c-1,M⟩
   have p0:i=(c:Int):=M;subst p0;obtain⟨n,q0,b0,c0⟩:=dJ (l:=L) (i:=(c:Int)) M M;rw[q0,aE];rw[hx]at c0;have I:kd L c=if pK n=W then hO (kd L) n.aD (c+1) 0 else Y:=by rw[kd,yH,c0];rfl
   have K:kd L c=Y->(80:Int)=qi L:=λq=>(QZ M M q).symm;refine aB (ahV hN n (E n b0).1) λy B=>?_;subst B;refine cj (λB=>ad (K (by grind))) λB=>?_;rw[B,aq rfl]at I;have H0:=(E n b0).2;refine aS (λs=>∃(q d:Nat),s.1.1=(q:Int)/\c<q/\q<=L.length/\d<=256/\s.1.2.length=L.length/\s.1.2[c]?=O (d:Int)/\(∀j,j≠c->s.1.2[j]?=A[j]?)/\kd L c=O (q,d+1)) (λI0 r0=>?_) ?_
   .rw[b7 M M];refine bl (λs=>∃(q d k:Nat),s.1.1=(q:Int)/\s.1.2.1=(k:Int)/\k<=n.aD.length/\c<q/\q<=L.length/\d<=256/\s.1.2.2.length=L.length/\s.1.2.2[c]?=O (d:Int)/\(∀j,j≠c->s.1.2.2[j]?=A[j]?)/\hO (kd L) (n.aD.drop k) q d=hO (kd L) n.aD (c+1) 0) (λs=>(n.aD.length-s.1.2.1).toNat) ⟨c+1,0,0,by grind,rfl,M,M,M,M,X,a0 c M,λj m=>rfl,rfl⟩ (by grind) ?_;rintro J0 ⟨⟨s0,K0,d0⟩,t0⟩ ⟨q,d,k,o,P,u0,e0,Q,C,p,t,D,f⟩ w0;dsimp only at o P p t D⊢;subst o P;refine a6 (λf0=>?_) λf0=>r0 _ ⟨q,d,rfl,e0,Q,C,p,t,D,?_⟩
    .obtain ⟨x,x0,_,g0⟩:=dJ (l:=n.aD) (i:=(k:Int)) M f0;rw[x0,aE];rw[hx]at g0;have y0:n.aD.drop k=x::n.aD.drop (k+1):=by obtain⟨a,b⟩:=cr.1 g0;rw[oS a,b]
     rw[y0]at f;simp only[hO]at f;refine bE (λa=>ad (K (by grind))) λa=>?_;rw[aq a]at f;refine eZ (λb=>ad (K ?_)) λb=>?_
     .rw[I,<-f,show kd L q=Y by rw[kd,yH,vC M];rfl];rfl
     obtain⟨sz,g,v,w,h⟩:=H q M M;rw[h,aE]at f;have L0:=Dz L cY.aD pK h;have A0:=sub_le L cY.aD pK h;rw[tf t,aE,tf (by rw[D q M];exact w),aE,aE,tf v,aE];have B0:c<d0.length:=M;have C0:(bif decide ((d:Int)<(g:Int))then(g:Int)else(d:Int))=((max d g:Nat):Int):=by
      by_cases i0:(d:Int)<(g:Int)
      .simp only[i0,od,aW];omega
      .simp only[i0,lM,aX];omega
     refine w0 _ ⟨q+sz,max d g,k+1,?_,?_,M,M,A0,M,?_,?_,?_,f⟩ ?_
     .dsimp only;rw[b7 M M];omega
     .dsimp only;rw[b7 M M];omega
     .dsimp only;rw[List.length_set];grind
     .dsimp only;rw[C0,hx,tG B0]
     .intro j m;dsimp only;rw[hx,EW M];exact D j m
     .dsimp only;rw[b7 M M];omega
    .rw[EV M]at f;rw[I,<-f];rfl
   .rintro ⟨⟨s0,d0⟩,t0⟩ ⟨q,d,o,P,u0,e0,Q,C,p,t⟩;dsimp only at o Q C p⊢;subst o;obtain⟨z,D0,_,_⟩:=dJ (l:=size) (i:=(c:Int)) M M;rw[D0,aE,tf C,aE,aE,hx,b7 (x:=(q:Int)-c) M M,b7 (x:=(d:Int)+1) M M,b7 M M];refine n0 _ ⟨c,by grind,M,by grind,by grind,λj m=>?_,λj k0 U=>?_⟩ ?_
    .dsimp only;rw[EW M,p j M];grind
    .dsimp only;by_cases m:j=c
     .subst m;refine⟨q-j,d+1,?_,?_,?_⟩
      grind
      grind
      .rw[t];congr 2;omega
     .obtain ⟨sz,g,v,w,h⟩:=H j M U;exact⟨sz,g,by grind,by grind,h⟩
    grind
  grind
 .rintro ⟨⟨size,A⟩,u⟩ ⟨sz,d,v,w,h⟩;dsimp only at v w⊢;unfold qi;rw[show ax size 0=O (sz:Int)from tf v,aE,show ax A 0=O (d:Int)from tf w,h,ao M];dsimp only;refine bE (λa=>ad ?_) λa=>a6 (λb=>ad ?_) λb=>ad ?_
  grind
  grind
  grind
end
end Go.Proofs.Mo
namespace Go.Proofs.Mo
open Go Go.Ev Go.X
variable{l k:Int}{env:Z jT}{m:gB}{n:cY}{δ ε γ:Type}{o:Rs Va}{σ:δ->ε->Prop}
def Lh(m:gB)(x:Nd)(role:bP):Z Int:=x.aD.filter λk=>((cE m k).map λy=>y.role==role).getD F
structure IE(m:gB):Prop where
 right:dE m=W
 rd:zW m
 below:∀n∈m.aj,fx m 64 n=W
 aD:∀n∈m.aj,∀k∈n.aD,sC m n k
theorem UY(c:nn m)(h:dE m=W):IE m:=by
 have a:=h;unfold dE at a;rw[aP,aP]at a;obtain⟨_,_,d⟩:=a;have e:=di.1 d;refine⟨h,mP c h,λn b=>?_,λn b=>?_⟩
 grind
 .have:=e n b;simp only[aP,jk,aV]at this
  grind
section
variable{N:Nat}(hN:1073741824<=N)
include hN
theorem Pq(s:bP)(G:s.length<=1048576):T (Nf N s) λr=>r=hP s:=by
 unfold Nf;refine aS (λx=>x.1=DM s [63]) (λJ d=>?_) (λx a=>?_)
 .rw[aaO]at d;cases s with
  |nil=>exact aS (λx=>x.1=F) (λw k=>k _ rfl) λ⟨b,u⟩ a=>by grind|cons c r=>
   refine aS (λx=>x.1=((c.toNat:Int)==63)) (λw k=>?_) λ⟨b,u⟩ a=>?_
   .refine aw (λ_=>?_) (λh=>by grind);rw[show ax (c::r) 0=O c from rfl]
    grind
   .dsimp only at a⊢;rw[a];refine aw (λh=>bO aH (d _ ?_)) λh=>d _ ?_
    .have:c=63:=by
      have h:(c.toNat:Int)=63:=by grind
      apply UInt8.toNat_inj.1
      grind
     grind
    .have:c≠63:=by rintro rfl;grind
     grind
 .obtain ⟨y,u⟩:=x;dsimp only at a;have l:hP s=gn y:=by rw[hP,a]
  rw[l];refine aS (λx=>x.1=W/\gn y=F∨x.1=F/\1<=y.length/\y.length<=32) (λH m=>a6 (λh=>m _ (.inl ⟨rfl,?_⟩)) λh=>m _ ?_) λ⟨I,K⟩ e=>?_
  .have:y=[]:=oT M;subst this;rfl
  .by_cases q:32<(y.length:Int)
   .have:¬y.length<=32:=M;exact .inl ⟨by grind,by simp[gn,this]⟩
   grind
  .dsimp only at e⊢;rcases e with⟨e,A⟩|⟨e,L,P⟩
   .rw[e,A];exact ad rfl
   rw[e,aX];refine aS (λ_=>gn y=W) (λJ d=>?_) (λ_ h=>ad h.symm);refine Pg hN (y:=y) M M λrec p B Q f _ i n=>?_;refine aw (λg=>?_) λg=>d _ (n (by grind));simp only[aV]at g;rw[b7 M M];refine aL B g λc R o=>?_;have f:=f g c o;have i:=λC=>i (λS t=>by rw[o]at t;cases t;exact C) g;unfold yT at f i;have D:∀(v:¬(((65<=(c.toNat:Int)/\(c.toNat:Int)<=90)∨(97<=(c.toNat:Int)/\(c.toNat:Int)<=122))∨(p≠0/\((48<=(c.toNat:Int)/\(c.toNat:Int)<=57)∨(c.toNat:Int)=95)))),T (O F) λr=>r=gn y:=λv=>ad (f v).symm;clear f d n l a;generalize(c.toNat:Int)=z at*;refine aS (λx=>x.1=W↔((65<=z/\z<=90)∨(97<=z/\z<=122))) (λU E=>?_) λ⟨X,a0⟩ E=>?_
   grind
   .refine aS (λx=>(x.1=W->¬(((65<=z/\z<=90)∨(97<=z/\z<=122))∨(p≠0/\((48<=z/\z<=57)∨z=95))))/\(x.1=F->(((65<=z/\z<=90)∨(97<=z/\z<=122))∨(p≠0/\((48<=z/\z<=57)∨z=95))))) (λb0 j=>?_) λ⟨c0,d0⟩ j=>aw (λq=>D (j.1 q)) λq=>i (j.2 q)
    grind
theorem DZ(m:gB)(c:iw m)(E:m.aj.length<=1048576)(id:Int):T (Nc N (m,id)) λr=>r=IQ m id:=by
 unfold Nc;refine aS (λs=>0<=s.1/\s.1<=m.aj.length/\(∀i(hi:i<m.aj.length),(i:Int)<s.1->m.aj[i].iD<id)/\∀i(hi:i<m.aj.length),s.1<=(i:Int)->¬m.aj[i].iD<id) (λJ w=>?_) (λx d=>?_)
 .refine bl (λs=>0<=s.1.1/\s.1.1<=s.1.2/\s.1.2<=m.aj.length/\(∀i(hi:i<m.aj.length),(i:Int)<s.1.1->m.aj[i].iD<id)/\∀i(hi:i<m.aj.length),s.1.2<=(i:Int)->¬m.aj[i].iD<id) (λs=>(s.1.2-s.1.1).toNat) ⟨aH,aH,aH,λi hi h=>by grind,λi hi h=>by grind⟩ (by grind) ?_;rintro rec ⟨⟨a,hi⟩,u⟩ ⟨k,y,z,f,l⟩ n;dsimp only at k y z f l;refine aw (λb=>?_) (λb=>w _ ⟨k,by grind,f,?_⟩)
  .simp only[aV]at b;have A:IntKind.i64.wrap ((IntKind.i64.wrap (a+hi)).tdiv 2)=(a+hi)/2:=by rw[b7 (x:=a+hi) M M,Int.tdiv_eq_ediv_of_nonneg M,b7 M M]
   rw[A];have G:a<=(a+hi)/2:=M;have H:(a+hi)/2<hi:=M;generalize(a+hi)/2=mid at*;refine bO b9 (aL M M λx d o=>?_);have I:m.aj[mid.toNat]'M=x:=by obtain⟨_,h⟩:=cr.1 o;grind
   refine aw (λg=>?_) (λg=>?_)
   .simp only[aV]at g;rw[b7 M M];refine n _ ⟨?_,?_,?_,?_,l⟩ ?_<;>dsimp only
    grind
    grind
    grind
    .intro i p h;by_cases e:i=mid.toNat
     grind
     .have:=c i mid.toNat M M
      grind
    .omega
   .simp only[cP]at g;refine n _ ⟨?_,?_,?_,f,?_⟩ ?_<;>dsimp only
    grind
    grind
    grind
    .intro i p h;by_cases e:i=mid.toNat
     grind
     .have:=c mid.toNat i M p
      grind
    .omega
  grind
 .obtain ⟨q,u⟩:=x;obtain⟨j,B,t,v⟩:=d;dsimp only at j B t v;obtain⟨q,rfl⟩:=oR j;have C:=at_end c (id:=id) (q:=q) M (λi hi h=>t i hi M) (λi hi h=>v i hi M);refine aw (λb=>?_) (λb=>ad ?_)
  .simp only[aV]at b;have D:q<m.aj.length:=M;refine aL j b λx d o=>?_;obtain rfl:m.aj[q]=x:=by grind
   rw[dif_pos D]at C;refine aw (λe=>ad ?_) λe=>ad ?_
   grind
   grind
  grind
theorem adQ(l:Z Int)(x:Int)(a:l.length<=1048576):T (Xk N (l,x)) λr=>r=decide (x∈l):=by
 unfold Xk;have:T (Xj N (l,x)) λr=>decide (0<=r)=decide (x∈l):=by
  unfold Xj;refine aS (λ_=>x∉l) (λJ c=>?_) (λ_ h=>ad (by grind));refine nP hN a (b:=λi=>l[i]?==O x) λrec i f=>⟨λhi g=>?_,λhi=>?_⟩
  .subst hi;refine aw (λh=>by grind) λ_=>c _ λd=>?_;obtain⟨j,k,rfl⟩:=hB d
   grind
  .refine aw (λ_=>?_) λh=>by grind
   refine aL M M λy m n=>aw (λe=>ad ?_) λe=>?_
   grind
   grind [sj]
 grind [aB,ad]
theorem aiN(m:gB)(g0:nn m)(X:iw m)(n:Nd)(o:ra n):T (F55 N (m,n)) λr=>r=(nN m n&&jk m n):=by
 have h0:=o.bd;have i0:=o.bK;have C0:=o.aD;have D0:=g0.len;unfold F55;refine aB (Pq hN n.au o.au) λy g=>?_;subst g;refine aw (λh=>ad ?_) λC=>aw (λh=>ad ?_) λa0=>?_
 grind [iB,nN]
 .simp only[aV]at h
  grind [nN]
 .simp only[oa,cP,kC]at C a0;have j0:n.aD.length<=m.aj.length:=M;have k0:kg n.bd=W->(nN m n&&jk m n)=F:=λh=>by simp[nN,h]
  have l0:mr m.next n.bK=W->(nN m n&&jk m n)=F:=λh=>by simp[nN,h]
  refine aS (λ_=>kg n.bd=F) (λJ q=>?_) (λ_ m0=>aS (λ_=>mr m.next n.bK=F) (λJ q=>?_) (λ_ n0=>bO ?_ ?_))
  .refine nP hN h0 (b:=ly n.bd) λrec i t=>⟨λhi G=>?_,λhi=>?_⟩
   .subst hi;exact aw (λh=>by grind) λ_=>q _ (jI.2 G)
   .have d:ly n.bd i=W->T (O F) λr=>r=(nN m n&&jk m n):=λh=>ad (k0 (sF.2 ⟨i,hi,h⟩)).symm;refine aw (λ_=>?_) λh=>by grind
    refine aL M M λx v a=>aB (Pq hN x.name (o.name x v)) λw H=>?_;simp at a;subst H;refine aw (λh=>d (nO a (.inl (by grind)))) λz=>aL M M λA _ f=>?_;simp at f;obtain rfl:x=A:=cJ (a.symm.trans f);refine aw (λh=>d (nO a (.inr (by grind)))) λD=>?_;simp only[oa,cP,kC]at z D;have o0:¬(x.value.length:Int)>4096:=M;rw[sj M];refine aw (λE=>?_) (λE=>t ?_ hi)
    .simp only[aV]at E;rw[b7 M M];refine aL M M λy _ g=>aL M M λI _ B=>?_;simp at B;obtain rfl:x=I:=cJ (a.symm.trans B);have l:=xj a M (by rw[(M:i-1=((i:Int)-1).toNat)];exact g);simp only[z,o0,lM,fQ,IS,vz]at l;refine aw (λc=>d (l.trans c)) λc=>t (l.trans c) hi
    .have:i=0:=by grind
     grind [xk]
  .refine nP hN i0 (b:=oI m.next n.bK) λrec i t=>⟨λhi G=>?_,λhi=>?_⟩
   .subst hi;exact aw (λh=>by grind) λ_=>q _ (jI.2 G)
   .have d:oI m.next n.bK i=W->T (O F) λr=>r=(nN m n&&jk m n):=λh=>ad (l0 (sF.2 ⟨i,hi,h⟩)).symm;refine aw (λ_=>?_) λh=>by grind
    refine aL M M λx v a=>aB (Pq hN x.role (o.YR x v)) λw H=>?_;simp at a;subst H;refine aw (λh=>d (kO a (.inl (by grind)))) λz=>aL M M λA _ f=>?_;simp at f;obtain rfl:x=A:=cJ (a.symm.trans f);refine aw (λh=>d (kO a (.inr (.inl (by grind))))) λD=>aL M M λA _ f=>?_;simp at f;obtain rfl:x=A:=cJ (a.symm.trans f);refine aw (λh=>d (kO a (.inr (.inr (by grind))))) λE=>?_;simp only[oa,cP]at z D E;have p0:¬x.target≥m.next:=M;rw[sj M];refine aw (λc=>?_) (λc=>t ?_ hi)
    .simp only[aV]at c;rw[b7 M M];refine aL M M λy _ g=>aL M M λI _ B=>?_;simp at B;obtain rfl:x=I:=cJ (a.symm.trans B);have l:=zY (next:=m.next) a M (by rw[(M:i-1=((i:Int)-1).toNat)];exact g);simp only[z,D,p0,lM,fQ,IS,vz]at l;refine aw (λc=>d (l.trans c)) λc=>t (l.trans c) hi
    .have:i=0:=by grind
     grind [zZ]
  grind [cq]
  .have q0:nN m n=W:=by simp[nN,C,j0,m0,n0]
   rw[q0,lD];refine aS (λ_=>jk m n=W) (λJ q=>?_) (λ_ h=>ad h.symm);refine bl (λs=>0<=s.1.1/\s.1.1<=n.aD.length/\s.1.2.length=m.aj.length/\(∀j(K:j<m.aj.length),s.1.2[j]?=O (decide (m.aj[j].iD∈n.aD.take s.1.1.toNat)))/\(∀k∈n.aD.take s.1.1.toNat,sC m n k)/\(n.aD.take s.1.1.toNat).Nodup) (λs=>(n.aD.length-s.1.1).toNat) ⟨aH,aH,aH,λj K=>by grind,aH,aH⟩ (by grind) ?_;rintro rec ⟨⟨p,r0⟩,u⟩ ⟨b0,s0,t0,L,u0,w0⟩ x0;dsimp only at b0 s0 t0 L u0 w0;refine aw (λP=>?_) (λP=>q _ ?_)
   .simp only[aV]at P;refine aL b0 P λk c0 Q=>aB (DZ hN m X M k) λy g=>?_;subst g;have R:n.aD.take (p.toNat+1)=n.aD.take p.toNat++[k]:=by
     obtain⟨hi,rfl⟩:=cr.1 Q
     grind [xv]
    have S:¬((∀k∈n.aD,sC m n k)/\n.aD.Nodup)->T (O F) λr=>r=jk m n:=λh=>ad (by unfold jk;grind);rcases sA X k with⟨e,E0⟩|⟨i,hi,e,d0⟩
    .rw[e];refine S λh=>?_;obtain⟨x,v,C,_⟩:=h.1 k c0
     grind
    .rw[e];refine aw (λh=>by grind) λ_=>?_;have y0:ax m.aj (i:Int)=O m.aj[i]:=dq hi;have A0:ax r0 (i:Int)=O (decide (k∈n.aD.take p.toNat)):=by rw[qf,L i hi,d0]
     simp only[y0,A0,aE];refine aw (λh=>S λU=>?_) λf0=>aw (λh=>S λU=>?_) λB0=>?_
     .obtain ⟨x,v,C,a0⟩:=U.1 k c0
      grind [jH,fR]
     .have:=U.2.sublist (List.take_sublist (p.toNat+1) n.aD)
      grind
     .simp only[oa,gE,cP]at f0 B0;refine x0 _ ⟨?_,?_,?_,?_,?_,?_⟩ ?_
      grind [b7]
      grind [b7]
      grind
      .dsimp only;rw[b7 M M,(M:(p+1).toNat=p.toNat+1),R];intro j K;rw[hx,y9];by_cases e:i=j
       grind
       .rw[ao e,L j K]
        grind [vg]
      .dsimp only;rw[b7 M M,(M:(p+1).toNat=p.toNat+1),R];intro k' Q;rcases fK.1 Q with h|h
       grind
       .simp at h;subst h;exact⟨m.aj[i],fR hi,d0,f0⟩
      .dsimp only;rw[b7 M M,(M:(p+1).toNat=p.toNat+1),R,List.nodup_append]
       grind
      grind [b7]
   grind [cP,kC,de,jk]
theorem aiO(m:gB)(b:nn m)(c:iw m)(n:Nd)(o:ra n):T (F56 N (m,n)) λr=>r=fx m 64 n:=by
 have I:=b.len;unfold F56;refine aS (λ_=>fx m 64 n=F) (λJ q=>?_) (λ_ h=>ad h.symm);refine bl (λs=>∃f:Nat,f<=64/\s.1.1=65-(f:Int)/\∃x:Nd,ra x/\x.iD=s.1.2.1/\x.cu=s.1.2.2.2.1/\x.role=s.1.2.2.2.2.1/\fx m 64 n=fx m f x) (λs=>(65-s.1.1).toNat) ⟨64,M,aH,n,o,rfl,rfl,rfl,rfl⟩ (by grind) ?_;rintro rec ⟨⟨p,K,L,P,Q,R,S,U⟩,u⟩ ⟨f,X,t,x,v,j,k,l,a⟩ A;dsimp only at t j k l;subst j k l;refine aw (λd=>?_) (λd=>q _ ?_)
 .simp only[aV]at d;obtain⟨f,rfl⟩:∃g,f=g+1:=⟨f-1,M⟩
  refine aw (λh=>ad ?_) λh=>?_
  .have h:x.cu=0:=by grind
   rw[a,fx,aq h]
   grind
  .have h:¬x.cu=0:=by grind
   refine aB (DZ hN m c M x.cu) λy B=>?_;subst B;rcases sA c x.cu with⟨e,C⟩|⟨i,hi,e,D⟩
   .rw[e];refine aw (λ_=>ad ?_) λh=>by grind
    rw[a,fx,ao h,sD C]
   .rw[e];have E:cE m x.cu=O m.aj[i]:=by rw[<-D];exact gx c hi
    have G:ax m.aj (i:Int)=O m.aj[i]:=dq hi;refine aw (λh=>by grind) λ_=>aB (Pq hN x.role v.role) λw H=>?_;subst H;simp only[G,aE];have a0:fx m 64 n=((hP x.role&&decide (x.iD∈m.aj[i].aD))&&fx m f m.aj[i]):=by rw[a,fx,ao h,E]
    refine aw (λh=>ad ?_) λb0=>aB (adQ hN _ x.iD (b.node _ (fR hi)).aD) λz c0=>aw (λh=>ad ?_) λd0=>A _ ⟨f,M,?_,m.aj[i],b.node _ (fR hi),rfl,rfl,rfl,?_⟩ ?_
    grind
    grind
    grind [b7]
    grind
    grind [b7]
 .simp only[cP]at d;have:f=0:=M;subst this;rw[a];rfl
theorem aaT(m:gB)(c:nn m):T (GA N m) λr=>r=dE m:=by
 have B:=c.len;unfold GA;have C:pu m=F->dE m=F:=λh=>by simp[dE,h]
 refine aw (λh=>ad ?_) λD=>aw (λh=>ad ?_) λE=>aw (λh=>ad ?_) λG=>?_
 grind [pu]
 grind [pu,decide]
 grind
 .have p:pu m=W:=by grind [pu,decide]
  refine aS (λ_=>Iw m=W) (λJ d=>?_) (λ_ f=>?_)
  .refine nP hN (n:=m.aj.length) M (b:=ub m) λrec i g=>⟨λhi q=>?_,λhi=>?_⟩
   .subst hi;exact aw (λh=>by grind) λ_=>d _ (by grind [Iw,jI])
   .have a:ub m i=W->T (O F) λr=>r=dE m:=λh=>ad (by grind [Iw,sF,dE]);have e:ax m.aj (i:Int)=O m.aj[i]:=dq hi;refine aw (λ_=>?_) λh=>by grind
    simp only[e,aE];refine aw (λh=>a (by unfold ub;grind)) λs=>aw (λh=>a (by unfold ub;grind)) λt=>?_;rw[sj M];refine aw (λk=>?_) (λk=>g ?_ hi)
    .simp only[aV]at k;rw[b7 M M];have u:ax m.aj ((i:Int)-1)=O (m.aj[i-1]'M):=by grind [dq]
     simp only[u,aE];have H:ub m i=decide (m.aj[i].iD<=(m.aj[i-1]'M).iD):=by unfold ub;grind
     grind
    .have:i=0:=by grind
     subst this;unfold ub;grind
  .obtain ⟨l,I⟩:=Ix f;have v:dE m=m.aj.all λn=>(nN m n&&jk m n)&&fx m 64 n:=by simp[dE,p,f]
   rw[v];refine aS (λ_=>(m.aj.all λn=>(nN m n&&jk m n)&&fx m 64 n)=W) (λJ d=>?_) (λ_ h=>ad h.symm);refine nP hN (n:=m.aj.length) M (b:=λi=>!((m.aj[i]?).map λn=>(nN m n&&jk m n)&&fx m 64 n).getD W) λrec i g=>⟨λhi q=>?_,λhi=>?_⟩
   .subst hi;refine aw (λh=>by grind) λ_=>d _ ?_;rw[di];intro n w;obtain⟨j,K,rfl⟩:=hB w
    grind
   .have e:ax m.aj (i:Int)=O m.aj[i]:=dq hi;have a:((nN m m.aj[i]&&jk m m.aj[i])&&fx m 64 m.aj[i])=F->T (O F) λr=>r=m.aj.all λn=>(nN m n&&jk m n)&&fx m 64 n:=λh=>ad (by grind);refine aw (λ_=>?_) λh=>by grind
    simp only[e,aE];have o:=c.node _ (fR hi);refine aB (aiN hN m c l _ o) λy x=>?_;subst x;refine aw (λh=>a (by grind)) λs=>aB (aiO hN m c l _ o) λz A=>?_;subst A;refine aw (λh=>a (by grind)) λt=>?_;rw[sj M]
    grind
theorem XP(b:IE m){β:Type}{A:Int->V Int}(t:∀id,KT id->T (A id) λr=>r=IQ m id){x:Nd}(e:x∈m.aj)(role:bP){J:Z Int×ab->V β}{P:β->Prop}{f:((Z Int×Int)×ab->V β)->(Z Int×Int)×ab->V β}
  (v:∀rec out p,f rec ((out,p),())=bif decide (p<(x.aD.length:Int))then aG (λ(s:Z Int×ab)=>rec ((s.1,IntKind.i64.wrap (p+1)),())) λc=>(ax x.aD p).bind λz=>(A z).bind λy=>(ax m.aj y).bind λw=>bif w.role==role then(dv (cF 8 (out.length+[z].length) 140737488355328)).bind λ_=>c (out++[z],())else c (out,())else J (out,()))
  (B:T (J (Lh m x role,())) P):T (aQ f N (([],0),())) P:=by
 have g:=b.rd.sorted;have j:=b.rd.ok.node x e;have K:=j.aD;refine bl (λs=>0<=s.1.2/\s.1.2<=x.aD.length/\s.1.1=(x.aD.take s.1.2.toNat).filter λk=>((cE m k).map λy=>y.role==role).getD F) (λs=>(x.aD.length-s.1.2).toNat) ⟨aH,aH,aH⟩ (by grind) ?_;rintro rec ⟨⟨out,p⟩,u⟩ ⟨l,C,d⟩ D;dsimp only at l C d;rw[v];refine aw (λa=>?_) (λa=>?_)
 .simp only[aV]at a;have L:out.length<=1048576:=by grind
  refine aS (λs=>s.1=(x.aD.take (p.toNat+1)).filter λk=>((cE m k).map λy=>y.role==role).getD F) (λc n=>?_) (λs Q=>D _ ⟨?_,?_,?_⟩ ?_)
  .refine aL l a λk o E=>aB (t k (j.kid k o)) λz G=>?_;have R:x.aD.take (p.toNat+1)=x.aD.take p.toNat++[k]:=by obtain⟨hi,rfl⟩:=cr.1 E;simp_all
   obtain⟨y,H,q,S⟩:=b.aD x e k o;obtain⟨i,hi,rfl⟩:=hB H;have:z=(i:Int):=by rw[G,<-q];exact lx g hi
   subst this;have I:ax m.aj (i:Int)=O m.aj[i]:=dq hi;have U:cE m k=O m.aj[i]:=by rw[<-q];exact gx g hi
   simp only[I,aE];refine aw (λh=>bO (cq (by grind) (by grind)) (n _ ?_)) λh=>n _ ?_
   grind
   grind
  grind [b7]
  grind [b7]
  grind [b7]
  grind [b7]
 .simp only[cP,kC]at a;rw[de M]at d;rw[d];exact B
theorem adR(m:gB)(a:IE m){x:Nd}(c:x∈m.aj)(role:bP):T (Xq N (m,x.iD,role)) λr=>r=Lh m x role:=by
 have d:=a.rd.ok;have n:=d.len;have b:=a.rd.sorted;unfold Xq;refine aB (aaT hN m d) λy f=>?_;rw[a.right]at f;subst f;refine aB (DZ hN m b M x.iD) λz g=>?_;obtain⟨i,hi,rfl⟩:=hB c;have:z=(i:Int):=by rw[g];exact lx b hi
 subst this;refine aw (λh=>by grind) λ_=>?_;unfold aay;have j:ax m.aj (i:Int)=O m.aj[i]:=dq hi;refine aB (aB (DZ hN m b M _) λz g=>?_) λw k=>ad k;have:z=(i:Int):=by grind
 subst this;simp only[j,aE];refine aS (λs=>s.1=Lh m m.aj[i] role) (λJ l=>XP hN a (A:=λid=>Nc N (m,id)) (λid _=>DZ hN m b M id) c role (λrec out p=>?_) (l _ rfl)) (λs h=>ad h);dsimp only;cases e:ax m.aj[i].aD p with
 |none=>grind|some z=>grind
theorem YY(ls:Z dc)(i:iY ls)(a b:bP):T (Uj N (ls,a,b)) λr=>r=iQ ls a b:=by
 unfold Uj;refine aB (F2 hN ls a i) λl ⟨f,j⟩=>?_;rw[f]at j⊢;clear f;refine aS (λ_=>(gk ls a).any (λx=>x.name==b)=F) (λJ k=>?_) (λx g=>ad (by simp only[iQ,g,vz]));refine bl (λst=>0<=st.1/\st.1<=(gk ls a).length/\(gk ls a).any (λx=>x.name==b)=((gk ls a).drop st.1.toNat).any λx=>x.name==b) (λst=>((gk ls a).length-st.1).toNat) ⟨aH,aH,aH⟩ (by grind) ?_;rintro rec ⟨p,u⟩ ⟨h,m,c⟩ n;dsimp only at h m c;refine aw (λd=>?_) (λd=>k _ ?_)
 .simp only[aV]at d;refine aL h d λx g o=>?_;have q:(gk ls a).drop p.toNat=x::(gk ls a).drop (p.toNat+1):=by obtain⟨hi,rfl⟩:=cr.1 o;simp_all
  rw[q,List.any_cons]at c;refine aw (λe=>ad ?_) λe=>n _ ⟨?_,?_,?_⟩ ?_
  grind [iQ]
  grind [b7]
  grind [b7]
  .dsimp only;rw[b7 M M,(M:(p+1).toNat=p.toNat+1),c,e,vz]
  grind [b7]
 grind [cP,kC,EV]
end
abbrev Q6:Type:=(V Nat)×Int×(Z jT)->Hp->V ((dw×Int)×Hp)
section
variable(ls:Z dc)(G:Gd)(w:Nat)
def WR(h:Hp)(l:Int):Prop:=h.nY[w]?=O ⟨ls,G.m,⟨G.E⟩,G.self,l⟩
def RD{α γ:Type}(ρ:α->γ->Prop)(o:Rs α)(y:(γ×Int)×Hp):Prop:=match o with
 |.ka e=>y.1.2=e/\e≠0|.ok a l=>ρ a y.1.1/\y.1.2=0/\WR ls G w y.2 l
abbrev vv(v:Va)(x:dw):Prop:=x=v.v
structure IF(rec:Q6)(dB:Int->List jT->Int->Rs Va)(S:Int->Prop)(c:Nat):Prop where
 run:∀k env h l,S k->env.length<=c->0<=l->l<=1048576->WR ls G w h l->T (rec (O w,k,env) h) (RD ls G w vv (dB k env l))
 ok:∀k env l,0<=l->mQ l (dB k env l)
end
section
variable{N:Nat}(hN:1073741824<=N){ls:Z dc}{G:Gd}{w:Nat}
variable{rec:Q6}{dB:Int->Z jT->Int->Rs Va}{S:Int->Prop}{c:Nat}
theorem Ps{α:Type}{ρ:α->γ->Prop}{o:Rs α}{y:(γ×Int)×Hp}{x:ε}{g:α->Int->Rs δ}{K:V ((ε×Int)×Hp)}(d:RD ls G w ρ o y)
  (h:∀a l,o=.ok a l->ρ a y.1.1->y.1.2=0->WR ls G w y.2 l->T K (RD ls G w σ (g a l))):T (bif !(y.1.2==0)then O ((x,y.1.2),y.2)else K) (RD ls G w σ (o.bind g)):=by
 cases o with
 |ka e=>
  obtain⟨b,c⟩:=(d:y.1.2=e/\e≠0)
  have:(!(y.1.2==0))=W:=by grind
  rw[this,aW];exact ad ⟨b,c⟩
 |ok a l=>
  obtain⟨b,c,f⟩:=(d:ρ a y.1.1/\y.1.2=0/\WR ls G w y.2 l)
  have:(!(y.1.2==0))=F:=by grind
  rw[this,aX];exact h a l rfl b c f
def D6(b:IF ls G w rec dB S c){h:Hp}(d:S k)(f:env.length<=c)(h0:0<=l)(i:l<=1048576)(j:WR ls G w h l){g:Va->Int->Rs δ}{X:((dw×Int)×Hp)->ε}{K:((dw×Int)×Hp)->V ((ε×Int)×Hp)}
  (m:∀v a y,y.1.1=v.v->y.1.2=0->v.Ok->0<=a->a<=l->WR ls G w y.2 a->T (K y) (RD ls G w σ (g v a))):
  T ((rec (O w,k,env) h).bind λy=>bif !(y.1.2==0)then O ((X y,y.1.2),y.2)else K y) (RD ls G w σ ((dB k env l).bind g)):=by
 refine aB (b.run k env h l d f h0 i j) λy n=>Ps n λv a e hv o p=>?_;have:=b.ok k env l h0;rw[e]at this;exact m v a y hv o this.1 this.2.1 this.2.2 p
theorem aaU{h:Hp}(a:WR ls G w h l)(h0:0<=l)(c:l<=1048576):T (GB N (O w) h) λy=>(l=0/\y.1=F)∨(l≠0/\y.1=W/\WR ls G w y.2 (l-1)):=by
 have b:h.nY[w]?=O ⟨ls,G.m,⟨G.E⟩,G.self,l⟩:=a;unfold GB;simp only[aE,b];refine bt (λe=>ad (.inl ⟨e,rfl⟩)) λe=>iv λd f=>ad (.inr ⟨e,rfl,?_⟩)
 grind [cr,WR,tG,b7]
def atI(m:gB)(x:Nd)(i:Int):Prop:=∃q:Nat,i=q/\∃a:q<m.aj.length,m.aj[q]=x
theorem tg(c:iw m)(id:Int):(cE m id=Y/\IQ m id=-1)∨∃x,cE m id=O x/\atI m x (IQ m id):=by
 rcases sA c id with⟨a,b⟩|⟨q,d,a,b⟩
 .exact .inl ⟨sD b,a⟩
 .right;refine⟨m.aj[q],?_,q,a,d,rfl⟩;rw[<-b];exact gx c d
include hN
theorem UZ(d:tx G)(m:IF ls G w rec dB S c){h:Hp}(n:S k)(o:env.length<=c)(h0:0<=l)(p:l<=1048576)(r:WR ls G w h l):
  T (Qx N rec (O w,k,env) h) (RD ls G w (atI G.m) ((dB k env l).bind (Lv G))):=by
 have f:=d.ready.sorted;unfold Qx;dsimp only;refine D6 m n o h0 p r λv g y hv B C D E j=>?_;rw[hv];cases v with
 |vn i=>
  have s:y.2.nY[w]?=O ⟨ls,G.m,⟨G.E⟩,G.self,g⟩:=j;refine bE (λq=>(q rfl).elim) λ_=>?_;simp only[aE,s];refine aB (DZ hN G.m f (by have:=d.Gi;omega) (Va.vn i).v.node) λz t=>?_;subst t;show T _ (RD ls G w (atI G.m) (match cE G.m i with
   |some x=>.ok x g|none=>.ka 102))
  rcases tg f i with⟨q1,a⟩|⟨x,q1,a⟩
  .rw[q1];have a:IQ G.m (Va.vn i).v.node=-1:=a;rw[a];exact ad ⟨rfl,b9⟩
  .rw[q1];have a:atI G.m x (IQ G.m (Va.vn i).v.node):=a;obtain⟨q,e,u,A⟩:=a;refine a6 (λb=>M) λ_=>ad ⟨⟨q,e,u,A⟩,rfl,j⟩
 |_=>exact bE (λ_=>ad ⟨rfl,b9⟩) λq=>by cases q
omit hN in
theorem Pt(d:IF ls G w rec dB S c){h:Hp}(e:S k)(f:env.length<=c)(h0:0<=l)(g:l<=1048576)(j:WR ls G w h l):
  T (Ng N rec (O w,k,env) h) (RD ls G w (λa b=>b=a) ((dB k env l).bind KZ)):=by
 unfold Ng;dsimp only;refine D6 d e f h0 g j λv n y hv o p r s m=>?_;rw[hv];cases v with
 |vb i=>exact bE (λq=>(q rfl).elim) λ_=>ad ⟨rfl,rfl,m⟩|_=>exact bE (λ_=>ad ⟨rfl,b9⟩) λq=>by cases q
theorem aiP{h:Hp}(a:WR ls G w h l)(n:cY)(env:Z jT)(o:env.length<=1048576)(r:n.kind<=7):T (F59 N (O w,n,env) h) (RD ls G w vv (Gh G n env l)):=by
 have f:h.nY[w]?=O ⟨ls,G.m,⟨G.E⟩,G.self,l⟩:=a;unfold F59 Gh;apply bt<;>intro e
 .rw[aq e];exact ad ⟨rfl,rfl,a⟩
 rw[ao e];apply bt<;>intro e
 .rw[aq e];exact ad ⟨rfl,rfl,a⟩
 rw[ao e];apply bt<;>intro e
 .rw[aq e];exact ad ⟨rfl,rfl,a⟩
 rw[ao e];apply bt<;>intro e
 .rw[aq e];exact ad ⟨rfl,rfl,a⟩
 rw[ao e];apply bt<;>intro e
 .rw[aq e];simp only[aE,f];exact ad ⟨rfl,rfl,a⟩
 rw[ao e];apply bt<;>intro e
 .rw[aq e];exact ad ⟨rfl,rfl,a⟩
 rw[ao e];refine aS (λ_=>uc env n.text=Y) (λJ g=>?_) λ_ i=>?_
 .refine bl (λs=>-1<=s.1/\s.1<env.length/\(env.drop (s.1+1).toNat).reverse.find? (λv=>v.name==n.text)=Y) (λs=>(s.1+1).toNat) ⟨?_,?_,?_⟩ ?_ ?_
  grind [b7]
  grind [b7]
  grind [b7,List.drop_eq_nil_of_le]
  grind [b7]
  rintro t ⟨p,u⟩ ⟨j,k,b⟩ m;dsimp only at j k b⊢;refine eZ (λc=>?_) λc=>g _ ?_
  .obtain ⟨q,rfl⟩:=oR c;have d:q<env.length:=M;rw[show ax env (q:Int)=O env[q]from dq d];simp only[aE];have x:env.drop q=env[q]::env.drop (q+1):=oS d;rw[(M:((q:Int)+1).toNat=q+1)]at b;refine bt (λe=>?_) λe=>m _ ⟨?_,?_,?_⟩ ?_
   .have:uc env n.text=O env[q].node:=by
     unfold uc;have:env.reverse=(env.drop (q+1)).reverse++([env[q]]++(env.take q).reverse):=by simp_all
     grind
    rw[this];exact ad ⟨rfl,rfl,a⟩
   all_goals dsimp only;rw[b7 M M]
   grind
   grind
   grind
   grind
  .have:p=-1:=M;subst this
   grind [uc]
 .rw[i];exact ad ⟨rfl,b9⟩
end
section
variable{N:Nat}(hN:1073741824<=N){ls:Z dc}{G:Gd}{w:Nat}
variable{rec:Q6}{dB:Int->Z jT->Int->Rs Va}{S:Int->Prop}{c:Nat}
theorem D7{d:Type}(f:mQ l o){X:V ((d×Int)×Hp)}{ρ:γ->d->Prop}{c:Va->Int->Rs γ}(h:T X (RD ls G w ρ (o.bind c)))(has:∀v l a b,c v l=.ok a b->b=l){g:γ->Int->Rs δ}{x:((d×Int)×Hp)->ε}{K:((d×Int)×Hp)->V ((ε×Int)×Hp)}
  (k:∀a b y v,v.Ok->c v b=.ok a b->ρ a y.1.1->y.1.2=0->0<=b->b<=l->WR ls G w y.2 b->T (K y) (RD ls G w σ (g a b))):
  T (X.bind λy=>bif !(y.1.2==0)then O ((x y,y.1.2),y.2)else K y) (RD ls G w σ (o.bind λv l=>(c v l).bind g)):=by
 rw[<-Le];refine aB h λy i=>Ps i λa b e m n p=>?_;cases o with
 |ka e=>cases e
 |ok v j=>
  have e:c v j=.ok a b:=e;have:=has _ _ _ _ e;subst this;obtain⟨q1,q,r⟩:=f
  grind
include hN
theorem aiQ(C:tx G)(f:IF ls G w rec dB S c)(L:oK S n 1)(a0:14<=n.kind)(b0:n.kind<=19){h:Hp}(i:env.length<=c)(h0:0<=l)(j:l<=1048576)(m:WR ls G w h l):
  T (F61 N rec (O w,n,env) h) (RD ls G w vv ((je dB n 0 env l).bind λv l=>Pl G n.kind v l)):=by
 obtain⟨k,o,r,P⟩:=hj L 0 M;have r:ax n.aD 0=O k:=r;rw[P];unfold F61;dsimp only;rw[r];have D:=f.ok k env l h0;refine aS (λs=>s.1=(decide (n.kind=17)||decide (n.kind=18))) (λJ E=>bt (λe=>E _ (by grind)) λe=>E _ ?_) ?_
 grind
 rintro⟨p,u⟩ H;dsimp only at H⊢;subst H;simp only[aE];apply aw<;>intro e
 .have I:∀(x:Nd)(y:((Int×Int)×Hp)) d,atI G.m x y.1.1->WR ls G w y.2 d->∃g,y.2.nY[w]?=O g/\ax g.m.aj y.1.1=O x:=λx y d ⟨q,e1,Q,R⟩ b=>⟨_,b,by rw[e1,<-R];exact dq Q⟩
  rcases(show n.kind=17∨n.kind=18 by grind)with e|e
  .rw[e];show T _ (RD ls G w vv ((dB k env l).bind λv l=>(Lv G v l).bind λx l=>Rs.ok (Va.vt x.au) l));refine D7 D (UZ hN C f o i h0 j m) Gk λa d y v _ _ t _ _ _ b=>?_;obtain⟨g,q1,A⟩:=I a y d t b;simp only[q1,aE,A];exact ad ⟨rfl,rfl,b⟩
  .rw[e];show T _ (RD ls G w vv ((dB k env l).bind λv l=>(Lv G v l).bind λx l=>Rs.ok (Va.vi x.iD) l));refine D7 D (UZ hN C f o i h0 j m) Gk λa d y v _ _ t _ _ _ b=>?_;obtain⟨g,q1,A⟩:=I a y d t b;simp only[q1,aE,A];exact ad ⟨rfl,rfl,b⟩
 .have e:¬n.kind=17/\¬n.kind=18:=by grind
  refine D6 f o i h0 j m λv d y hv c0 K d0 f0 b=>?_;rw[hv];rcases(show n.kind=14∨n.kind=15∨n.kind=16∨n.kind=19 by omega)with e1|e1|e1|e1
  .rw[e1];cases v with
   |vl xs=>exact ad ⟨rfl,rfl,b⟩|_=>exact ad ⟨rfl,b9⟩
  .rw[e1];cases v with
   |vl xs=>
    cases xs with
    |nil=>exact ad ⟨rfl,rfl,b⟩|cons x xs=>
     have U:decide (0<(((Va.vl (x::xs)).v.bk.length:Nat):Int))=W:=by simp[Va.v]
     unfold aG;simp only[U];exact ad ⟨rfl,rfl,b⟩
   |_=>exact ad ⟨rfl,b9⟩
  .rw[e1];cases v with
   |vi x=>show T ((Uk N x).bind _) _;refine aB (acB hN (show cG x from K)) λz B=>?_;subst B;exact ad ⟨rfl,rfl,b⟩|_=>exact ad ⟨rfl,b9⟩
  .rw[e1];cases v with
   |vt x=>
    show T ((Ul N x).bind _) (RD ls G w vv (match X.nw x with
     |some n=>.ok (.vi n) d|none=>.ka 103))
    refine aB (acC hN x K) λz B=>?_;subst B;cases X.nw x with
    |none=>exact ad ⟨rfl,b9⟩|some n=>exact ad ⟨rfl,rfl,b⟩
   |_=>exact ad ⟨rfl,b9⟩
omit hN in
theorem aiR(f:IF ls G w rec dB S c)(U:27<=n.kind)(X:n.kind<=30)(r:oK S n (eX n.kind)){h:Hp}(m:env.length<=c)(h0:0<=l)(s:l<=1048576)(t:WR ls G w h l):
  T (F63 N rec (O w,n,env) h) (RD ls G w vv (if n.kind<=28 then(je dB n 0 env l).bind λv l=>(KZ v l).bind λb l=>if b=(n.kind==28)then .ok (.vb b) l else(je dB n 1 env l).bind λv l=>(KZ v l).bind λc l=>.ok (.vb c) l
   else if n.kind=29 then(je dB n 0 env l).bind λv l=>(KZ v l).bind λb l=>.ok (.vb !b) l
   else(je dB n 0 env l).bind λv l=>(KZ v l).bind λb l=>je dB n (if b=W then 1 else 2) env l)):=by
 have a0:eX n.kind=if n.kind<=28 then 2 else if n.kind=29 then 1 else 3:=by
  unfold eX
  grind
 have K:0<eX n.kind:=by grind
 obtain⟨k,u,x,A⟩:=hj r 0 K;have x:ax n.aD 0=O k:=x;have B:=f.ok k env l h0;unfold F63;dsimp only;rw[x];simp only[aE];have L:n.kind=29∨n.kind=30∨n.kind=27∨n.kind=28:=M;rcases L with e|e|e
 .rw[ao M,aq e,A,e];refine D7 B (Pt f u m h0 s t) ud λa g y v _ _ i _ _ _ d=>?_;rw[i];exact ad ⟨rfl,rfl,d⟩
 .rw[ao M,ao M,A];obtain⟨p,C,j,D⟩:=hj r 1 (by grind);obtain⟨E,P,H,Q⟩:=hj r 2 (by grind);have j:ax n.aD 1=O p:=j;have H:ax n.aD 2=O E:=H;rw[j,H,e];refine D7 B (Pt f u m h0 s t) ud λa g y v _ _ i _ o J d=>?_;rw[i];cases a with
  |true=>show T ((rec (O w,p,env) y.2).bind λy=>O ((y.1.1,y.1.2),y.2)) (RD ls G w vv (je dB n 1 env g));rw[D];exact aB (f.run p env y.2 g C m o M d) λz I=>ad I|false=>
   show T ((rec (O w,E,env) y.2).bind λy=>O ((y.1.1,y.1.2),y.2)) (RD ls G w vv (je dB n 2 env g));rw[Q];exact aB (f.run E env y.2 g P m o M d) λz I=>ad I
 .rw[aq M,A];obtain⟨p,C,j,D⟩:=hj r 1 (by grind);have j:ax n.aD 1=O p:=j;rw[j];have R:(n.kind==29)=F:=by grind
  have b0:(n.kind==30)=F:=by grind
  simp only[R,b0,aX,aE];refine D7 B (Pt f u m h0 s t) ud λa g y v _ _ i _ o J d=>?_;rw[i];by_cases q:a=(n.kind==28)
  .rw[aq q];have:(a==(n.kind==28))=W:=by grind
   rw[this,aW];exact ad ⟨rfl,rfl,d⟩
  .rw[ao q];have:(a==(n.kind==28))=F:=by grind
   rw[this,aX,D];refine D7 (f.ok _ _ _ o) (Pt f C m o M d) ud λa g y v _ _ i _ o J d=>?_;rw[i];exact ad ⟨rfl,rfl,d⟩
end
section
variable{N:Nat}(hN:1073741824<=N){ls:Z dc}{G:Gd}{w:Nat}
variable{rec:Q6}{dB:Int->Z jT->Int->Rs Va}{S:Int->Prop}{c:Nat}
include hN
theorem aaV{xs:Z Int}{kf:Int->Int->Rs Va}{b:Int}(D:xs.length<=1048576){f:(((Z Int×Int×Int)×Hp)->V ((dw×Int)×Hp))->((Z Int×Int×Int)×Hp)->V ((dw×Int)×Hp)}{h0:Hp}
  (m:WR ls G w h0 b) (o:0<=b)
  (step:∀(g:((Z Int×Int×Int)×Hp)->V ((dw×Int)×Hp))(p:Nat) a sum h x l,p<xs.length->ax xs (p:Int)=O x->WR ls G w h l->0<=l->l<=b->cG sum->a.length<=p->
    (∀d e i c,WR ls G w i c->0<=c->c<=l->cG e->d.length<=p+1->T (g ((d,e,IntKind.i64.wrap ((p:Int)+1)),i)) (RD ls G w vv (kP kf k (xs.drop (p+1)) d e c)))->
    T (f g ((a,sum,(p:Int)),h)) (RD ls G w vv (kP kf k (x::xs.drop (p+1)) a sum l)))
  (q:∀(g:((Z Int×Int×Int)×Hp)->V ((dw×Int)×Hp)) a sum h l,WR ls G w h l->T (f g ((a,sum,(xs.length:Int)),h)) (RD ls G w vv (.ok (Pm k a sum) l))):T (aQ f N (([],0,0),h0)) (RD ls G w vv (kP kf k xs [] 0 b)):=by
 have r:∀(Mloc p:Nat) a sum h l,xs.length-p<Mloc->p<=xs.length->WR ls G w h l->0<=l->l<=b->cG sum->a.length<=p->T (aQ f Mloc ((a,sum,(p:Int)),h)) (RD ls G w vv (kP kf k (xs.drop p) a sum l)):=λMloc=>by
  induction Mloc with
  |zero=>grind|succ Mloc s=>
   intro p a sum h l E m n t u v y;by_cases j:p<xs.length
   .rw[oS j];refine step _ p a sum h xs[p] l j (dq j) n t u v y λd e i c z A H B C=>?_;rw[b7 M M,(M:((p:Int)+1)=((p+1:Nat):Int))];exact s (p+1) d e i c M M z A M B C
   .have:p=xs.length:=M;subst this;rw[y8 (bq _)];exact q _ a sum h l n
 exact r N 0 [] 0 h0 b M M m o (gY _) b9 aH
theorem aiS(E:IF ls G w rec dB S c)(t0:c<=1000)(H:oK S n 2)(u0:31<=n.kind)(w0:n.kind<=34){h:Hp}(x0:env.length+1<=c)(h0:0<=l)(P:l<=1048576)(Q:WR ls G w h l):
  T (F64 N rec (O w,n,env) h) (RD ls G w vv ((je dB n 0 env l).bind λv l=>(UO v l).bind λxs l=>kP (λx l=>je dB n 1 (env++[⟨n.text,x⟩]) l) n.kind xs [] 0 l)):=by
 obtain⟨k,R,r,U⟩:=hj H 0 M;obtain⟨t,X,u,y0⟩:=hj H 1 M;have r:ax n.aD 0=O k:=r;have u:ax n.aD 1=O t:=u;rw[U];have a0:(λx l=>je dB n 1 (env++[⟨n.text,x⟩]) l)=λx l=>dB t (env++[⟨n.text,x⟩]) l:=by
  funext x l
  grind
 rw[a0];unfold F64;dsimp only;rw[r,u];simp only[aE];refine D6 E R M h0 P Q λv b0 y hv A0 c0 d0 B0 e0=>?_;rw[hv];cases v with
 |vl xs=>
  have f0:xs.length<=1048576:=c0;refine bE (λq=>(q rfl).elim) λ_=>?_;show T _ (RD ls G w vv (kP (λx l=>dB t (env++[⟨n.text,x⟩]) l) n.kind xs [] 0 b0));unfold aG;refine aaV hN f0 e0 d0 ?_ ?_
  .intro I p a sum i0 x j0 C0 J A l0 D0 g E0 d;have B:decide ((p:Int)<(((Va.vl xs).v.bk.length:Nat):Int))=W:=by show decide ((p:Int)<(xs.length:Int))=W;grind
   have m0:ax (Va.vl xs).v.bk (p:Int)=O x:=J;have G0:ax xs (p:Int)=O x:=J;dsimp only;rw[B,aW,rf];refine aB (aaU A l0 M) λz n0=>?_;rcases n0 with⟨C,D⟩|⟨C,D,o0⟩
   .rw[D,aq C];exact ad ⟨rfl,b9⟩
   rw[D,ao C];simp only[fQ,aX,m0,aE];rw[lj (cq M M),aE,lj (cq (by grind) (by grind)),aE,pw];refine D6 E X (by grind) M M o0 λm i j p0 H0 q0 o I0 f=>?_;rw[p0];rcases(show n.kind=31∨n.kind=32∨n.kind=33∨n.kind=34 by omega)with e|e|e|e
   .rw[e];rw[e]at d;cases m with
    |vb b=>
     cases b with
     |true=>exact ad ⟨rfl,rfl,f⟩|false=>exact d a sum j.2 i f o M g M
    |_=>exact ad ⟨rfl,b9⟩
   .rw[e];rw[e]at d;cases m with
    |vb b=>
     cases b with
     |true=>exact d a sum j.2 i f o M g M|false=>exact ad ⟨rfl,rfl,f⟩
    |_=>exact ad ⟨rfl,b9⟩
   .rw[e];rw[e]at d;cases m with
    |vb b=>
     cases b with
     |true=>show T ((dv (cF 8 (a.length+[x].length) 140737488355328)).bind λ_=>I ((a++[x],sum,IntKind.i64.wrap ((p:Int)+1)),j.2)) _;rw[lj (cq (by grind) (by grind)),aE];exact d (a++[x]) sum j.2 i f o M g (by grind)|false=>exact d a sum j.2 i f o M g M
    |_=>exact ad ⟨rfl,b9⟩
   .rw[e];rw[e]at d;cases m with
    |vi b=>
     obtain⟨s,K,r0⟩:=Yz N (k:=20) (x:=sum) (y:=b) aH g q0;have s0:qh 20 sum b=sum+b:=rfl;rw[s0]at K r0;show T ((KL N (20,sum,b)).bind _) (RD ls G w vv (if cG (sum+b)then kP _ 34 (xs.drop (p+1)) a (sum+b) i else .ka 101));rw[K,aE];by_cases L:cG (sum+b)
     grind
     .rw[ao L];simp only[L,lM,tA,aW];exact ad ⟨rfl,b9⟩
    |_=>exact ad ⟨rfl,b9⟩
  .intro I a sum i0 j0 A;have B:decide ((xs.length:Int)<(((Va.vl xs).v.bk.length:Nat):Int))=F:=by show decide ((xs.length:Int)<(xs.length:Int))=F;simp
   dsimp only;rw[B,aX];rcases(show n.kind=31∨n.kind=32∨n.kind=33∨n.kind=34 by omega)with e|e|e|e;all_goals
    rw[e];exact ad ⟨rfl,rfl,A⟩
 |_=>exact bE (λ_=>ad ⟨rfl,b9⟩) λq=>by cases q
end
theorem Q7(m:gB)(d:Nat)(id:Int):gr m (d+1) id=(jV m id).flatMap λk=>k::gr m d k:=rfl
def U6(m:gB):Nat->Nd->Prop
 |0,n=>n.cu=0|L+1,n=>n.cu≠0/\∃p,cE m n.cu=O p/\U6 m L p
theorem xl{m:gB}:∀(f:Nat)(n:Nd),h5 m f n=W->∃L,L<f/\U6 m L n
 |0,n,h=>by cases h
 |f+1,n,h=>by
  unfold h5 at h;split at h
  .rename_i e;exact ⟨0,M,e⟩
  .rename_i e;split at h
   grind
   .rename_i p a;obtain⟨L,c,b⟩:=xl f p h;exact⟨L+1,M,e,p,a,b⟩
theorem xm{m:gB}:∀(L a:Nat)(n:Nd),U6 m L n->U6 m a n->L=a
 |0,0,_,_,_=>rfl|0,a+1,n,h,b=>(b.1 h).elim
 |L+1,0,n,h,b=>(h.1 b).elim|L+1,a+1,n,⟨_,p,d,h⟩,⟨_,e,c,b⟩=>by rw[d]at c;cases c;rw[xm L a p h b]
section
variable{m:gB}(hT:QT m)
include hT
theorem vp{x:Nd}(a:x∈m.aj):∃L,L<64/\U6 m L x:=xl 64 x (hT.YT x a)
theorem IG{x:Nd}(a:x∈m.aj):cE m x.iD=O x:=by obtain⟨i,hi,rfl⟩:=hB a;exact gx hT.ready.sorted hi
theorem IH{x:Nd}(a:x∈m.aj){L:Nat}(c:U6 m L x)(d:k∈jV m x.iD):∃y∈m.aj,y.iD=k/\U6 m (L+1) y/\L+1<64:=by
 obtain⟨n,y,e,f,g,h,i,j,l,b⟩:=rb hT d;have o:U6 m (L+1) y:=⟨by rw[b];have:=(hT.ready.rj x a).1;omega,x,by rw[b];exact IG hT a,c⟩
 grind [vp,xm]
theorem Nt:∀(d e L:Nat)(x:Nd),x∈m.aj->U6 m L x->64<=L+d->64<=L+e->gr m d x.iD=gr m e x.iD:=λd=>by
 induction d with
 |zero=>grind [vp,xm]|succ d b=>
  intro e L x c f j n;cases e with
  |zero=>grind [vp,xm]|succ e=>
   unfold gr;have:∀l:Z Int,(∀k∈l,k∈jV m x.iD)->(l.flatMap λk=>k::gr m d k)=l.flatMap λk=>k::gr m e k:=λl=>by
    induction l with
    |nil=>grind|cons k l g=>intro a;obtain⟨y,h,rfl,i,_⟩:=IH hT c f (a k aH);rw[tF,tF,g λk o=>a k (by grind),b e (L+1) y h i M M]
   grind
theorem U7{D:Nat}(d:63<=D){x:Nd}(a:x∈m.aj):gr m (D+1) x.iD=x.aD.flatMap λk=>k::gr m (D+1) k:=by
 obtain⟨L,b,c⟩:=vp hT a;have e:jV m x.iD=x.aD:=by unfold jV;rw[IG hT a]
 rw[Q7];have:∀l:Z Int,(∀k∈l,k∈jV m x.iD)->(l.flatMap λk=>k::gr m D k)=l.flatMap λk=>k::gr m (D+1) k:=λl=>by
  induction l with
  |nil=>grind|cons k l f=>
   intro b;obtain⟨y,g,rfl,h,_⟩:=IH hT a c (b k aH)
   grind [Nt]
 grind
theorem Li{x:Nd}(a:x∈m.aj):gr m 64 x.iD=x.aD.flatMap λk=>k::gr m 64 k:=U7 hT (D:=63) M a
theorem II:∀(d L:Nat)(x:Nd),x∈m.aj->U6 m L x->∀k∈gr m d x.iD,∃y∈m.aj,y.iD=k/\∃b,L<b/\U6 m b y:=λd=>by
 induction d with
 |zero=>intro L x _ _ k a;cases a
 |succ d g=>
  intro L x c e k a;unfold gr at a;obtain⟨q,f,a⟩:=NN.1 a;obtain⟨y,h,rfl,i,_⟩:=IH hT c e f
  grind
theorem XQ{x:Nd}(a:x∈m.aj):x.iD∉gr m 64 x.iD:=λh=>by
 obtain⟨L,d,b⟩:=vp hT a;obtain⟨y,c,e,f,g,i⟩:=II hT 64 L x a b _ h;have:=jH hT.ready.sorted c a e
 grind [xm]
end
def lH(m:gB)(st:Z Int):Z Int:=st.reverse.flatMap λz=>z::gr m 64 z
theorem nZ(m:gB)(st:Z Int)(z:Int):lH m (st++[z])=z::(gr m 64 z++lH m st):=by grind [lH,LA,List.reverse_singleton,List.singleton_append]
theorem Lj(m:gB)(st a:Z Int):lH m (st++a.reverse)=(a.flatMap λz=>z::gr m 64 z)++lH m st:=by grind [lH,LA,List.reverse_reverse]
theorem Q8(m:gB)(st:Z Int):st.length<=(lH m st).length:=by
 unfold lH;rw[<-Rw];induction st.reverse with
 |nil=>simp|cons z l a=>grind
section
variable{N:Nat}(hN:1073741824<=N)
include hN
theorem adS(hT:QT m)(a0:m.aj.length<=60)(A:∀n∈m.aj,n.aD.length<=1048576){x:Nd}(k:x∈m.aj):T (Xr N (m,x.iD)) λr=>r=gr m 64 x.iD:=by
 have h:=hT.ready.sorted;have b0:=Iz hT 64 x.iD;obtain⟨c0,_,d0⟩:=vp hT k;unfold Xr;refine aS (λs=>s.1=gr m 64 x.iD) (λJ B=>?_) λs h=>?_
 .refine bl (λs=>(s.1.1=[]/\s.1.2=[x.iD])∨s.1.1++lH m s.1.2=gr m 64 x.iD) (λs=>(lH m s.1.2).length) (.inl ⟨rfl,rfl⟩) (by dsimp only;rw[show [x.iD]=[]++[x.iD]from rfl,nZ];simp[lH];omega) ?_;rintro e0 ⟨⟨out,st⟩,u⟩ f C;dsimp only at f⊢;refine a6 (λg=>?_) λg=>B _ ?_
  .obtain ⟨b,z,rfl⟩:∃b z,st=b++[z]:=⟨st.dropLast,st.getLast (by grind),(List.dropLast_concat_getLast _).symm⟩
   have D:∃y∈m.aj,y.iD=z:=by
    rcases f with⟨_,c⟩|c
    .have:b=[]/\z=x.iD:=by
      cases b with
      |nil=>grind|cons a l=>grind
     grind
    .have f0:z∈gr m 64 x.iD:=by rw[<-c,nZ];simp
     grind [II]
   obtain⟨y,j,rfl⟩:=D;have g0:out.length+(lH m (b++[y.iD])).length<=3841:=by
    rcases f with⟨d,c⟩|c
    .rw[d,c,show [x.iD]=[]++[x.iD]from rfl,nZ];simp[lH];omega
    grind
   have h0:=nZ m b y.iD;have i0:=Q8 m b;have j0:(lH m (b++[y.iD])).length=1+(gr m 64 y.iD).length+(lH m b).length:=by grind
   have E:b.length<=3841:=M;have G:IntKind.i64.wrap (((b++[y.iD]).length:Int)-1)=(b.length:Int):=by grind [jf,b7]
   have H:ax (b++[y.iD]) (b.length:Int)=O y.iD:=by rw[dq aH];simp
   rw[G,H,aE];refine bO aH ?_;refine aS (λs=>(s.1=out++[y.iD]/\out++lH m (b++[y.iD])=gr m 64 x.iD)∨(s.1=[]/\y=x/\b=[])) (λk0 I=>?_) λ⟨o2,l0⟩ o=>?_
   .rcases f with⟨d,c⟩|c
    .have:b=[]/\y.iD=x.iD:=by
      cases b with
      |nil=>grind|cons a l=>grind
     grind [bE,jH]
    .have m0:y.iD∈gr m 64 x.iD:=by grind
     have K:¬y.iD=x.iD:=λe=>XQ hT k (by grind);refine bE (λ_=>bO (cq (by grind) (by grind)) (I _ (.inl ⟨rfl,c⟩))) λq=>(K q).elim
   .dsimp only at o⊢;refine aB (DZ hN m h M y.iD) λi hi=>?_;subst hi;obtain⟨q,t,rfl⟩:=hB j;have L:=lx h t;rw[L,show ax m.aj (q:Int)=O m.aj[q]from dq t,aE];have n0:=A _ j;generalize o0:m.aj[q]=y at*;have P:(b++[y.iD]).take ((b.length:Int)).toNat=b:=aH;rw[P];refine bl (λs=>-1<=s.1.2/\s.1.2<y.aD.length/\s.1.1=b++(y.aD.drop (s.1.2+1).toNat).reverse) (λs=>(s.1.2+1).toNat) ⟨?_,?_,?_⟩ ?_ ?_
    .dsimp only;rw[b7 M M];omega
    .dsimp only;rw[b7 M M];omega
    .dsimp only;rw[b7 M M,y8 M];simp
    .dsimp only;rw[b7 M M];omega
    rintro p0 ⟨⟨s2,p⟩,q0⟩ ⟨Q,R,v⟩ S;dsimp only at Q R v⊢;subst v;refine eZ (λg=>?_) λg=>C _ ?_ ?_
    .obtain ⟨p,rfl⟩:=oR g;have w:p<y.aD.length:=M;rw[show ax y.aD (p:Int)=O y.aD[p]from dq w,aE];have U:y.aD.drop p=y.aD[p]::y.aD.drop (p+1):=oS w;refine bO (cq (by grind) (by grind)) (S _ ⟨?_,?_,?_⟩ ?_);all_goals dsimp only;rw[b7 M M]
     grind
     grind
     .rw[(M:((p:Int)-1+1).toNat=p),(M:((p:Int)+1).toNat=p+1),U,List.reverse_cons,y7]
     grind
    .have:p=-1:=M;subst this;dsimp only;rw[(b9:((-1:Int)+1).toNat=0),tD,Lj,<-Li hT j];rcases o with⟨d,c⟩|⟨d,c,X⟩
     grind
     .right;rw[d,c,X];simp[lH]
    .have:p=-1:=M;subst this
     grind [Lj,Li,jf]
  .have E:st=[]:=oT M
   grind [lH]
 grind [ad]
theorem adT(a:nn m)(b:dE m=W)(f:m.aj.length<=60)(g:∀n∈m.aj,n.aD.length<=1048576){x:Nd}(c:x∈m.aj):T (Xs N (m,x.iD)) λr=>r=gr m 64 x.iD:=by
 have hT:=AS a b;unfold Xs;refine aB (aaT hN m a) λy d=>?_;rw[d,b];simp only[fQ,aX];refine aB (DZ hN m hT.ready.sorted M x.iD) λi hi=>?_;obtain⟨q,e,rfl⟩:=hB c;rw[lx hT.ready.sorted e]at hi
 grind [a6,aB,adS,ad]
theorem U8{G:Gd}(a:IE G.m){x:Nd}(b:x∈G.m.aj)(role:bP):Lh G.m x role=x.aD.filter λk=>re G k==role:=by
 unfold Lh;refine List.filter_congr λk c=>?_;obtain⟨y,d,f,_⟩:=a.aD x b k c;obtain⟨q,e,rfl⟩:=hB d;have:=gx a.rd.sorted e
 grind [re]
end
section
variable{N:Nat}(hN:1073741824<=N){ls:Z dc}{G:Gd}{w:Nat}
variable{rec:Q6}{dB:Int->Z jT->Int->Rs Va}{S:Int->Prop}{c:Nat}
include hN
theorem aiT(m0:iY ls)(s0:∀a b,G.β a b=iQ ls a b)(j:tx G)(C:nn G.m)(P:dE G.m=W)(n0:IF ls G w rec dB S c)(t0:oK S n 1)(n1:8<=n.kind)(o1:n.kind<=13){h:Hp}(u0:env.length<=c)(h0:0<=l)(w0:l<=1048576)(x0:WR ls G w h l):
  T (F60 N rec (O w,n,env) h) (RD ls G w vv ((je dB n 0 env l).bind λv l=>(Lv G v l).bind λx l=>QV G n x l)):=by
 have Q:=j.ready.sorted;obtain⟨k,y0,a0,A0⟩:=hj t0 0 M;have a0:ax n.aD 0=O k:=a0;rw[A0];unfold F60;dsimp only;rw[a0];simp only[aE];have B0:=n0.ok k env l h0;refine D7 B0 (UZ hN j n0 y0 u0 h0 w0 x0) Gk λx m y v _ C0 D0 _ g0 p1 g=>?_;obtain⟨⟨t1,_,E0⟩,_⟩:=yW C0;have A:=(gT E0).1;obtain⟨u1,d2,v1⟩:=j.nd x A;have R:=C.node x A;have G0:y.2.nY[w]?=O ⟨ls,G.m,⟨G.E⟩,G.self,m⟩:=g;have H0:ax G.m.aj y.1.1=O x:=by obtain⟨q,e,b0,I0⟩:=D0;rw[e,<-I0];exact dq b0
 simp only[G0,aE,H0];unfold QV;apply bt<;>intro e
 .rw[aq e];refine aS (λ_=>x.bd.find? (λp=>p.name==n.text)=Y) (λJ D=>?_) λ_ c0=>?_
  .refine bl (λs=>0<=s.1/\s.1<=x.bd.length/\(x.bd.take s.1.toNat).find? (λp=>p.name==n.text)=Y) (λs=>(x.bd.length-s.1).toNat) ⟨aH,aH,aH⟩ (by have:=R.bd;grind) ?_;rintro d0 ⟨p,u⟩ ⟨o,E,H⟩ I;have J0:=R.bd;dsimp only at o E H⊢;refine a6 (λt=>?_) λt=>D _ ?_
   .obtain ⟨z,hz,o0,U⟩:=dJ o t;simp only[hz,aE];have fs:=td U H;refine aw (λq=>?_) λq=>I _ ⟨?_,?_,?_⟩ ?_
    .rw[fs.1 q];exact ad ⟨rfl,rfl,g⟩
    all_goals dsimp only;rw[b7 M M]
    grind
    grind
    .rw[(M:(p+1).toNat=p.toNat+1)]
     grind
    grind
   grind [de]
  .rw[c0];exact ad ⟨rfl,rfl,g⟩
 rw[ao e];apply bt<;>intro e
 .rw[aq e];refine aB (adR hN G.m (UY C P) A n.text) λz hz=>?_;subst hz;rw[U8 hN (UY C P) A];exact ad ⟨rfl,rfl,g⟩
 rw[ao e];apply bt<;>intro e
 .rw[aq e];refine aS (λ_=>x.bK.find? (λr=>r.role==n.text&&(cE G.m r.target).isSome)=Y) (λJ D=>?_) λ_ c0=>?_
  .refine bl (λs=>0<=s.1/\s.1<=x.bK.length/\(x.bK.take s.1.toNat).find? (λr=>r.role==n.text&&(cE G.m r.target).isSome)=Y) (λs=>(x.bK.length-s.1).toNat) ⟨aH,aH,aH⟩ (by have:=R.bK;grind) ?_;rintro d0 ⟨p,u⟩ ⟨o,E,H⟩ I;have J0:=R.bK;dsimp only at o E H⊢;refine a6 (λt=>?_) λt=>D _ ?_
   .obtain ⟨z,hz,o0,U⟩:=dJ o t;simp only[hz,aE];have fs:=td U H;have K0:(z.role==n.text&&(cE G.m z.target).isSome)=F->T (d0 (IntKind.i64.wrap (p+1),())) (RD ls G w vv (.ok (.vn (((x.bK.find? λr=>r.role==n.text&&(cE G.m r.target).isSome).map Rf.target).getD 0)) m)):=λq=>by
     refine I _ ⟨?_,?_,?_⟩ ?_;all_goals dsimp only;rw[b7 M M]
     grind
     grind
     .rw[(M:(p+1).toNat=p.toNat+1)]
      grind
     grind
    refine aw (λq1=>?_) λq1=>K0 (by grind);refine aB (DZ hN G.m Q (by have:=j.Gi;omega) z.target) λi hi=>?_;subst hi;rcases tg Q z.target with⟨e0,X⟩|⟨f0,e0,q,X,_⟩
    grind
    .refine eZ (λ_=>?_) λb=>M;rw[fs.1 (by grind)];exact ad ⟨rfl,rfl,g⟩
   grind [de]
  .rw[c0];exact ad ⟨rfl,rfl,g⟩
 rw[ao e];apply bt<;>intro e
 .rw[aq e];exact ad ⟨rfl,rfl,g⟩
 rw[ao e];apply bt<;>intro e
 .rw[aq e];refine aB (YY hN ls m0 x.au n.text) λz hz=>?_;subst hz;rw[s0];exact ad ⟨rfl,rfl,g⟩
 rw[ao e];refine aB (adT hN C P j.Gi (λn L0=>(j.nd n L0).2.2) A) λf p0=>?_;have N0:=j.pre x A;have hT:=AS C P;have w1:∀z∈f,∃y∈G.m.aj,y.iD=z:=λz hz=>by grind [vp,II]
 rw[<-p0]at N0⊢;clear p0;refine aS (λs=>∃d,WR ls G w s.2 d/\tw (λk=>G.β (fk G k) n.text) f [] m=.ok (.vl s.1) d) (λJ D=>?_) λ⟨P0,Q0⟩ ⟨d,q1,K⟩=>?_
 .refine bl (λs=>0<=s.1.2/\s.1.2<=f.length/\∃d,WR ls G w s.2 d/\0<=d/\d<=m/\s.1.1.length<=s.1.2.toNat/\tw (λk=>G.β (fk G k) n.text) f [] m=tw (λk=>G.β (fk G k) n.text) (f.drop s.1.2.toNat) s.1.1 d) (λs=>(f.length-s.1.2).toNat) ⟨aH,aH,m,g,g0,gY _,aH,aH⟩ (by grind) ?_;rintro d0 ⟨⟨x1,p⟩,y1⟩ ⟨o,E,d,i0,R0,A1,S0,L⟩ I;dsimp only at o E i0 S0 L⊢;refine a6 (λt=>aS (λs=>∃B,WR ls G w s.2 B/\0<=B/\B<=m/\s.1.length<=p.toNat+1/\tw (λk=>G.β (fk G k) n.text) f [] m=tw (λk=>G.β (fk G k) n.text) (f.drop (p.toNat+1)) s.1 B) (λB1 r0=>?_) λ⟨P0,Q0⟩ ⟨B,K,T0,U0,X0,a1⟩=>?_) λt=>D _ ⟨d,i0,?_⟩
  .obtain ⟨z,hz,o0,U⟩:=dJ o t;have b1:f.drop p.toNat=z::f.drop (p.toNat+1):=by grind [cr,oS]
   rw[b1,Gl]at L;refine aB (aaU i0 R0 M) λc1 e1=>?_;rcases e1 with⟨j0,k0⟩|⟨j0,k0,l0⟩
   .rw[k0,L,aq j0];exact ad ⟨rfl,b9⟩
   rw[ao j0]at L;have f1:c1.2.nY[w]?=O ⟨ls,G.m,⟨G.E⟩,G.self,d-1⟩:=l0;simp only[k0,fQ,aX,f1,aE,hz];refine aB (DZ hN G.m Q (by have:=j.Gi;omega) z) λi hi=>?_;subst hi;rcases tg Q z with⟨e0,X⟩|⟨f0,e0,q,X,b0,i1⟩
   grind [IG]
   .rw[X,show ax G.m.aj (q:Int)=O f0 by rw[<-i1];exact dq b0,aE];refine aB (YY hN ls m0 f0.au n.text) λb C1=>?_;have j1:b=G.β (fk G z) n.text:=by grind [fk]
    subst j1;refine aw (λq=>bO (cq (by grind) (by grind)) (r0 _ ⟨d-1,l0,M,M,by grind,?_⟩)) λq=>r0 _ ⟨d-1,l0,M,M,by grind,?_⟩
    grind
    grind
  .dsimp only at K X0 a1⊢;have m1:(IntKind.i64.wrap (p+1))=p+1:=b7 M M;have D1:(p+1).toNat=p.toNat+1:=M;rw[m1];refine I _ ⟨by grind,by grind,B,K,T0,U0,by grind,by grind⟩ (by grind)
  .rw[L,y8 M];rfl
 .dsimp only at q1 K⊢;rw[K];exact ad ⟨rfl,rfl,q1⟩
end
section
variable{N:Nat}(hN:1073741824<=N){ls:Z dc}{G:Gd}{w:Nat}
variable{rec:Q6}{dB:Int->Z jT->Int->Rs Va}{S:Int->Prop}{c:Nat}
theorem Lk{X:V ((dw×Int)×Hp)}(h:T X (RD ls G w vv o)):T (X.bind λy=>O ((y.1.1,y.1.2),y.2)) (RD ls G w vv o):=aB h λy a=>ad a
theorem aaW{a b:Va}{e:Int}(h:h8 k a b=.error e):e≠0:=by
 unfold h8 at h
 grind
include hN
theorem adU(a0:iY ls)(b0:∀a b,G.β a b=iQ ls a b)(c0:tx G)(d0:nn G.m)(e0:dE G.m=W)(j:IF ls G w rec dB S c)(f0:c<=1000){i:Nat}(q:G.E[i]?=O n)(d:oK S n (eX n.kind))(i0:1<=n.kind/\n.kind<=34){h:Hp}(j0:env.length+1<=c)(h0:0<=l)(g:l<=1048576)(f:WR ls G w h l):
  T (Xt N rec (O w,(i:Int),env) h) (RD ls G w vv (if l=0 then .ka 100 else DT G dB n env (l-1))):=by
 unfold Xt;dsimp only;refine aB (aaU f h0 g) λz r=>?_;rcases r with⟨k,m⟩|⟨k,m,f⟩
 .rw[m,aq k];exact ad ⟨rfl,b9⟩
 rw[m,ao k];have h0:0<=l-1:=M;have g:l-1<=1048576:=M;generalize l-1=l at f h0 g⊢;have l0:i<G.E.length:=(cr.1 q).1;have s:ax G.E (i:Int)=O n:=by grind [dq,cX]
 have hw:z.2.nY[w]?=O ⟨ls,G.m,⟨G.E⟩,G.self,l⟩:=f;simp only[fQ,aX,hw,aE,s];unfold DT;apply eZ<;>intro e
 .rw[aq e]
  grind [Lk,aiP]
 rw[ao M];apply eZ<;>intro t
 .rw[aq t];have d:oK S n 1:=by rw[show eX n.kind=1 by unfold eX;grind]at d;grind
  grind [Lk,aiT]
 rw[ao M];apply eZ<;>intro u
 .rw[aq u];have d:oK S n 1:=by rw[show eX n.kind=1 by unfold eX;grind]at d;grind
  grind [Lk,aiQ]
 rw[ao M];apply eZ<;>intro x
 .rw[aq x];have d:oK S n 2:=by rw[show eX n.kind=2 by unfold eX;grind]at d;grind
  obtain⟨A,B,o,C⟩:=hj d 0 M;obtain⟨D,E,p,H⟩:=hj d 1 M;have o:ax n.aD 0=O A:=o;have p:ax n.aD 1=O D:=p;rw[o,p,aE,C];refine D6 j B M h0 g f λa m0 y I _ J K n0 L=>?_;rw[aE,H];refine D6 j E M K M L λb o0 p0 P _ Q q0 r0 R=>?_;rw[I,P,aiG hN M J Q,aE];cases U:h8 n.kind a b with
  |error e=>exact ad ⟨rfl,aaW U⟩|ok v=>exact ad ⟨rfl,rfl,R⟩
 rw[ao M];apply eZ<;>intro X
 .have:=aiR (env:=env) j (N:=N) M X d M h0 g f;refine Lk ?_
  grind
 rw[ao M,ao M,ao M];have d:oK S n 2:=by rw[show eX n.kind=2 by unfold eX;grind]at d;grind
 grind [Lk,aiS]
theorem aiU(n:iY ls)(o:∀a b,G.β a b=iQ ls a b)(e:tx G)(p:nn G.m)(r:dE G.m=W)(f:WfE G.E):∀(d Mloc:Nat)(i:Nat)(env:Z jT)(h:Hp)(l:Int),d<=Mloc->i<G.E.length->G.E.length-i<=d->env.length+d<=1000->0<=l->l<=1048576->WR ls G w h l->
  T (Aw N Mloc (O w,(i:Int),env) h) (RD ls G w vv (La G d (i:Int) env l)):=λd=>by
 induction d with
 |zero=>grind|succ d x=>
  intro Mloc i env h l y hi z s h0 g j;obtain⟨c,rfl⟩:∃c,Mloc=c+1:=⟨Mloc-1,M⟩
  have m:G.E[i]?=O G.E[i]:=cX hi;obtain⟨t,u⟩:=f.aD i _ m;have A:d<=1000:=M;have v:IF ls G w (Aw N c) (La G d) (λk=>(i:Int)<k/\k<G.E.length) (1000-d):=⟨λk env h l B s h0 g j=>by
   obtain⟨q,rfl⟩:=oR (show 0<=k by omega)
   grind,λk env l h0=>DW e d k env l h0⟩
  have:=adU (env:=env) hN n o e p r v M m ⟨t,u⟩ (f.kind _ (fR hi)) M h0 g j;show T (Xt N (Aw N c) (O w,(i:Int),env) h) _;unfold La
  grind
end
end Go.Proofs.Mo
namespace Go.Proofs.Mo
open Go Go.Ev Go.X
open Go.IntKind renaming i64->Wk
abbrev adV:Ty:=ZU
abbrev aaY:Ty:=Tz
noncomputable def lI:bT:=f8.body.getD .skip
noncomputable def adW (N:Nat):Z (Nat×Z (bZ U)):=[(16,[K16 N]),(17,[K17 N]),(18,[K18 N]),(20,[K20 N]),(21,[K21 N])]
noncomputable abbrev X8 (N:Nat):gy U:=XB N (adW N)
abbrev Vc:Z (Nat×Nat):=[(6,998),(7,998),(54,abK),(58,abJ)]
abbrev YZ:Z RK:=[.v adV,.v .I,.v .I]
abbrev XR:Z Ty:=[.ptr qg,Tw,Tx,.I,.I]
abbrev A8:Type:=HL U.C (YZ.map RK.ty)×U.C 0
def z39:Z (R U.C):=[.val .I (0:Int),.val .I (0:Int),.val .str ([]:X.bP),.val .bool F,.val .I (0:Int),.bF .I []]
noncomputable def Nu (N:Nat) (s:S U.C):V A8:=dj (X8 N) W f8.results.toList YZ s λs y=>O (y,s.h)
def S.Nv (s:S U.C):S U.C:={s with r:=bu (bu (bu s.r 10) 11) 12}
noncomputable def Gr (s:S U.C) (a b c:Ty) (d e f:Z (R U.C)) (K:S U.C->V A8):V A8:=bif Gq 0 (s.bG 10)&&(Gq 1 (s.bG 11)&&(Gq 2 (s.bG 12)&&(S.Nv s).pl F))then S.Ea (S.Nv s) 10 a d λs=>S.Ea s 11 b e λs=>S.Ea s 12 c f K else Y
noncomputable def adX (s:S U.C) (K:S U.C->Ty->Ty->Ty->Z (R U.C)->Z (R U.C)->Z (R U.C)->V A8):V A8:=
 match s.box 10,s.box 11,s.box 12,s.bG 10,s.bG 11,s.bG 12 with
 |some (.cells d a),O (.cells e b),O (.cells f c),.dT 10 0,.dT 11 0,.dT 12 0=>
  bif (((s.drop 10).drop 11).drop 12).pl F&&(a.all Gp&&(b.all Gp&&(c.all Gp&&(Nat.beq a.length 6&&(Nat.beq b.length 1&&Nat.beq c.length 1)))))then K (((((((s.drop 10).drop 11).drop 12).put (O 50) .none).put (O 10) (.it 0)).put (O 11) (.it 1)).put (O 12) (.it 2)) d e f a b c
  else Y
 |_,_,_,_,_,_=>Y
noncomputable def NF (N:Nat) (p:o8 U) (s:S U.C):V A8:=match Ap (U:=U) (β:=ab) (O (74,aaY)) p with
 |some (.error e)=>Gr s adV .I .I z39 [.val .I (0:Int)] [.val .I (cV.e e:Int)] (Nu N)|_=>Y
noncomputable def qj:Array aC:=match IP (eA 7 lI)with|.region _ ops _=>ops|_=>#[]
noncomputable def Pu (j:Nat):aC:=qj.getD j default
noncomputable def aaZ (N:Nat) (s:S U.C):V A8:=
 mE (X8 N) (λ_ _=>Y) Vc qj [Pu 2] s λs=>gX (X8 N) (λ_ _=>Y) Vc (eA 8 lI) .leaf s λe s=>match e with
  |.exit _=>Y|_=>Nu N s
def hs8:Z e9:=[.leaf,.seq Y .leaf (.block (.loop ⟨W,[10,11,12,16,60,61],[(62,.val .I)],[],[]⟩ .leaf))]
noncomputable def Pv (N:Nat) (s:S U.C):V A8:=adX s λs a b c d e f=>nM (X8 N) (NF N) Vc hs8 (eA 5 lI) s (λ_=>Y) λs=>mE (X8 N) (NF N) Vc qj [Pu 0,Pu 1] s λs=>Gr s a b c d e f (aaZ N)
noncomputable def ex8 (N:Nat) (x:HL U.C XR) (h:U.C 0):V A8:=nM (X8 N) (λ_ _=>Y) Vc [.leaf,.leaf,.leaf,.leaf] lI ({r:=kF XR 0 x,b:=[],tick:=1,h:=h}:S U.C) (Nu N) (Pv N)
def Vd(N:Nat)(c:V Nat)(b:gB)(d:oF)(f g:Int)(h:Hp):V ((dw×Int×Int)×Hp):=
 cw {h with vy:=h.vy++[[]]} λa=>
 cw {a with sY:=a.sY++[Vv.mk c b (oF.mk d.aj) (O h.vy.length) f g 0]} λk=>
 aQ (λrec((p,h):Int×Hp)=>
  bif p<b.aj.length then
   (ax b.aj p).bind λz=>
   (O a.sY.length).bind λi=>
   (h.sY[i]?).bind λe=>
   e.pH.bind λj=>
   (h.vy[j]?).bind λm=>
   cw {h with vy:=h.vy.set j (fV dp m z.iD z)} λh=>
   rec (Wk.wrap (p+1),h)
  else
   (F20 N (O a.sY.length,0,λ_ h=>O ((0,F),h)) h).bind λy=>
   eG y.1 (λe=>O ((dw.mk 0 0 [] F 0 [],0,e.e),y.2)) λv=>
   (O a.sY.length).bind λi=>
   (y.2.sY[i]?).bind λe=>
   O ((v,e.Kv,0),y.2)) N (0,k)
def F8(N:Nat):(V Nat)×gB×oF×Int×Int->Hp->V ((dw×Int×Int)×Hp):=λ(e,b,d,c,a) h=>(Gy N b).bind λg=>bif !(g==0)then O ((dw.mk 0 0 [] F 0 [],0,29),h)else(F17 N (oF.mk d.aj)).bind λf=>bif !(f==0)then O ((dw.mk 0 0 [] F 0 [],0,f),h)else(F18 N (b,c)).bind λi=>bif !(c==0)then bif !i.2 then O ((dw.mk 0 0 [] F 0 [],0,2),h)else bif a<0 then O ((dw.mk 0 0 [] F 0 [],0,2),h)else bif 1048576<a then O ((dw.mk 0 0 [] F 0 [],0,2),h)else Vd N e b d c a h else bif a<0 then O ((dw.mk 0 0 [] F 0 [],0,2),h)else bif 1048576<a then O ((dw.mk 0 0 [] F 0 [],0,2),h)else Vd N e b d c a h
abbrev K8(N:Nat):bZ U:=⟨XR,YZ,Y,.st (F8 N)⟩
def EC8(N:Nat)(x:HL U.C XR)(h:U.C 0):ex8 N x h=F8 N x h:=ap
end Go.Proofs.Mo
namespace Go.Proofs.Mo
open Go Go.Ev Go.X
variable{E:cd}{df:Z AV}{w0:af}{I0:aA}{N:Nat}{s:S U.C}{a:Act}{K:S U.C->V A8}
def XU(N:Nat)(E:cd)(a:oN E):uX PP E TT BB (adW N):=.cons (G16 N E a) (.cons (G17 N E a) (.cons (G18 N E a) (.cons (G20 N E a) (.cons (G21 N E a) .nil))))
def XV(a:oN E)(N:Nat):bJ PP E TT (X8 N):=sh SS.zM SS.ak a.ro (XU N E a)
abbrev Ve(E1:cd)(w0:af)(I0:aA)(r:HL U.C (YZ.map RK.ty))(a:Hp)(e:Ending)(w:af):Prop:=Eo PP E1 w0 I0 w (Rk (U:=U) TT a) (S7 U a) (.ret (db TT YZ r)) e
theorem IK{E1:cd}(e:∀i,E1.ro i=Y)(f:bJ PP {E1 with df:=df} TT (X8 N))(g:E1.cT=F){q:St}{w:af}{r:HL U.C (YZ.map RK.ty)}{c:Hp}(h:aU PP {E1 with df:=df} TT (X8 N) s q)(k:ko PP {E1 with df:=df} w0 I0 f8.ntmps q a w)(l:s.m=bF)(m:Nu N s=O (r,c)):
  ∃v,(results f8 a.tmps).run PP w=.ok v w/\Ve E1 w0 I0 r c (.returned v) w:=by
 obtain⟨s2,y,o,p,t⟩:=qO (w0:=w0) (I0:=I0) (n:=f8.ntmps) SS.L f _ YZ s (λ_=>g) m ap;obtain⟨d,ob,m1,m2,m3,m4,u⟩:=t q h;obtain⟨rfl,rfl⟩:=pz (cJ o);have x:fB TT bF s2.h d.a d.u:=by have:=m2.heap;rw[p.m,l]at this;grind
 obtain⟨z,A⟩:=HN x;obtain⟨I,be,C⟩:=m1 a w k;have b:=oC e z A C.aaX;obtain⟨v,D,bo,⟨E,G,H⟩,J⟩:=Je b u (hW m4);exact⟨v,D,v,_,bo,rfl,qz b ob,E,G,H,qB b ob λB ⟨j,K⟩=>by grind⟩
section
variable{E:cd}{N:Nat}{w0:af}{I0:aA}{n:Nat}{a:Act}{w:af}{I:aA}{be:Nat->V Nat}{q:St}{s:S U.C}{out:A8}
def yZ{d B:Nat}{t:Ty}{rs:Z (R U.C)}{o:Obj}(l:aU PP E TT (X8 N) s q)(m:aJ PP E w0 I0 n q a w I be)(p:fM E w0 w I be q B)(r:w.heap[B]?=O o)(u:sH PP U TT o rs)(v:d<n->a.tmps.getD d undef=.pointer (O ⟨B,0,Y⟩))(h:S.Ea s d t rs K=O out):
  ∃s' f,aU PP E TT (X8 N) s' f/\aJ PP E w0 I0 n f a w I (b8 be d (O B))/\s'.m=s.m/\K s'=O out/\∀B',B≠B'->fM E w0 w I be q B'->fM E w0 w I (b8 be d (O B)) f B':=by
 obtain⟨cur,te,cs,rfl,x,y,z⟩:=u.is;unfold S.Ea at h;obtain⟨e,h⟩:=az h;simp only[aP]at e;obtain⟨e,i⟩:=e;have i:=cC i;unfold S.new at h;obtain⟨k,h⟩:=az h;simp only[aP,iB]at k;exact⟨_,_,l.ep k.1 k.2 e i (y E _ _ _),m.U9 p r x (λj c A be b g=>z j c A _ _ _ _ _) v,rfl,h,λB' C D=>D.U9 C⟩
end
theorem Ln{w:af}{I:aA}{be:Nat->V Nat}{q:St}{out:A8}{m n o:Ty}{e f i:Z (R U.C)}{b c d:Nat}{o1 o2 o3:Obj}{j:cd}
  (p:j.df=df) (r:aU PP j TT (X8 N) s q) (t:aJ PP E w0 I0 f8.ntmps q a w I be) (u:fM E w0 w I be q b) (v:fM E w0 w I be q c) (x:fM E w0 w I be q d) (y:b≠c) (z:b≠d) (A:c≠d)
  (B:w.heap[b]?=O o1) (C:w.heap[c]?=O o2) (D:w.heap[d]?=O o3) (G:sH PP U TT o1 e) (H:sH PP U TT o2 f) (J:sH PP U TT o3 i)
  (L:a.tmps.getD 10 undef=.pointer (O ⟨b,0,Y⟩)) (P:a.tmps.getD 11 undef=.pointer (O ⟨c,0,Y⟩)) (Q:a.tmps.getD 12 undef=.pointer (O ⟨d,0,Y⟩)) (h:Gr s m n o e f i K=O out):
  ∃s' k T,aU PP {E with df:=df} TT (X8 N) s' k/\aJ PP {E with df:=df} w0 I0 f8.ntmps k a w I T/\s'.m=s.m/\K s'=O out:=by
 unfold Gr at h;obtain⟨g,h⟩:=az h;simp only[aP]at g;have X:aU PP {E with df:=df} TT (X8 N) (S.Nv s) q:=wS (X':=X8 N) rfl p (it:=F) (λh=>by grind) ((r.zI (ti:=10)).zI (ti:=11)|>.zI (ti:=12)) g.2.2.2;obtain⟨l0,q1,a0,b0,c0,d0,l⟩:=yZ X t.Ll u.Ll B G (λ_=>L) h;obtain⟨s2,m0,m1,m2,m3,m4,e0⟩:=yZ a0 b0 (l _ y v.Ll) C H (λ_=>P) d0;obtain⟨f0,g0,h0,i0,j0,k0,n0⟩:=yZ m1 m2 (e0 _ A (l _ z x.Ll)) D J (λ_=>Q) m4;exact⟨f0,g0,_,h0,i0,j0.trans (m3.trans c0),k0⟩
end Go.Proofs.Mo
