import Derived.Test.YtlacgaedkjhfhaaGreatDoorZC23
set_option linter.all false
set_option maxRecDepth 20000
open Option renaming some->O,none->Y
open Bool renaming true->W,false->F
open Go.Proofs.Tryz
noncomputable section
namespace Go.Proofs.Mo
open Go Go.Ev Go.X
section
variable{N:Nat}(hN:1073741824<=N)
include hN
def ug(N:Nat)(x:c8):tl:=(ON N x).getD F
theorem abF(x:c8)(n:x.text.length<=1048576):T (ON N x) λr=>r=W->hZ x:=by
 have g:T (O F) λr=>r=W->hZ x:=ag λh=>by grind
 unfold ON;refine a7 (λ_=>g) λq=>a7 (λ_=>g) λv=>ap (Q:=λ_=>True) (dr (Wo x.op) λ_ _=>trivial) λy j _=>az (λs=>s.1=W∨s.1=decide (x.arg<0)) (λJ k=>?_) λs l=>?_
 grind
 .obtain ⟨p,u⟩:=s;dsimp only at l⊢;refine ao (λ_=>g) λa=>?_;have m:0<=x.arg:=by
   grind
  by_cases i:x.op=1
  .have o:y=97:=by rw[i]at j;exact(cr (show O (97:Int)=O y from j)).symm
   subst o;refine ao (λe=>by grind) λ_=>ao (λe=>by cases e) λ_=>ao (λe=>?_) λ_=>ag λh=>⟨M,m,λ_=>di h⟩
   grind
  .have f:hZ x:=⟨M,m,λh=>(i h).elim⟩
   exact ao (λ_=>ag λ_=>f) λ_=>ao (λ_=>aF (dr (j6 hN x.text n) λ_ _=>trivial) λz _=>ag λ_=>f) λ_=>ao (λ_=>ag λ_=>f) λ_=>ag λ_=>f
def GO(c:Z c8)(o:V (Z db))(e:Int):Prop:=match o with
 |none=>e≠0/\e=if 1024<c.length then 4 else 110|some P=>e=0/\pq c P
omit hN in
theorem Sz{c:Z c8}{e:Int}(a:e≠0)(b:e=if 1024<c.length then 4 else 110):GO c Y e:=⟨a,b⟩
def oK(N:Nat)(c:Z c8):V (Z db):=LA (ug N) c
set_option maxHeartbeats 1000000 in
theorem abG(c:Z c8)(Q0:c.length<=1048576)(g0:∀x∈c,x.text.length<=1048576)(h:Hp):
  T (Z3 N (qI.mk c) h) λr=>(∃A B,r.2={h with v8:=A,oN:=B})/\GO c (oK N c) r.1.2:=by
 unfold Z3;refine a7 (λI=>ag ⟨⟨_,_,rfl⟩,?_⟩) λI=>?_
 .dsimp only at I;have:oK N c=Y:=by unfold oK LA;grind
  rw[this];exact Sz (by decide:(4:Int)≠0) (by grind)
 dsimp only at I⊢;have h0:(IntKind.i64.wrap ((c.length:Int)+1)).toNat=c.length+1:=by rw[rL M];rfl
 have i0:0<=IntKind.i64.wrap ((c.length:Int)+1):=by grind
 rw[h0];refine bY (by simp only[aI,aU];exact ⟨i0,dG M M⟩) (bY aE ?_);refine fc λt X=>fc λK j0=>?_;have a0:Ck {t with oN:=K.oN} t.oN.length h.v8.length c (List.replicate (c.length+1) ⟨F,0,[]⟩):=by rw[j0,X];exact⟨aE,by simp[bz]⟩
 have E:∃A B,({t with oN:=K.oN}:Hp)={h with v8:=A,oN:=B}:=by grind
 generalize({t with oN:=K.oN}:Hp)=g at a0 E⊢;have l0:fB (List.replicate (c.length+1) ⟨F,0,[]⟩) 0 0 []=O (⟨W,0,[]⟩::List.replicate c.length ⟨F,0,[]⟩):=by unfold fB;grind
 refine aF (EF hN a0 (λj h' L y=>?_) (lH 0) (by grind) 0 []) λr ⟨m0,b0⟩=>?_
 grind
 rw[Int.toNat_zero,l0]at b0;obtain⟨_,n0⟩:=b0;obtain⟨R0,S0,E⟩:=E;have o0:∃A B,r.2={h with v8:=A,oN:=B}:=⟨_,_,by rw[m0,E]⟩
 have p0:∀x,x∈c->∃b,ON N x=O b/\ug N x=b/\(b=W->hZ x):=λx n=>by obtain⟨b,G,D⟩:=abF hN x (g0 x n);exact⟨b,G,by unfold ug;grind,D⟩
 have q0:ue c (⟨W,0,[]⟩::List.replicate c.length ⟨F,0,[]⟩) 0:=by
  refine⟨aE,M,rfl,λi h L hi=>?_,λj x y=>M⟩;cases i with
  |zero=>simp only[gT,ax,db.mk.injEq,ke]at hi;obtain⟨rfl,rfl⟩:=hi;exact⟨M,M,aE,λj l y=>by grind⟩|succ i=>simp only[L9,zN]at hi;split at hi<;>simp at hi
 have r0:oK N c=Pq (ug N) c c 0 (⟨W,0,[]⟩::List.replicate c.length ⟨F,0,[]⟩):=by unfold oK LA;grind
 rw[r0];generalize s0:Pq (ug N) c c 0 (⟨W,0,[]⟩::List.replicate c.length ⟨F,0,[]⟩)=z;refine az (λs=>∃P,Ck s.2 t.oN.length h.v8.length c P/\ue c P c.length/\(∃A B,s.2={h with v8:=A,oN:=B})/\z=Pq (ug N) c [] c.length P) (λJ t0=>?_) λs u0=>?_
 .refine aP (λs=>∃P i,s.1=((i:Nat):Int)/\i<=c.length/\Ck s.2 t.oN.length h.v8.length c P/\ue c P i/\(∃A B,s.2={h with v8:=A,oN:=B})/\z=Pq (ug N) c (c.drop i) i P) (λs=>(c.length-s.1).toNat) ⟨_,0,rfl,M,n0,q0,o0,s0.symm⟩ dY ?_;rintro rec ⟨p,g⟩ ⟨P,i,c0,hi,k,q,f,d⟩ v0;dsimp only at c0 k f⊢;subst c0;apply a7<;>intro G
  .refine aH M G λx w0 n=>?_;rw[dV]at n;have x0:c.drop i=x::c.drop (i+1):=by obtain⟨y0,rfl⟩:=aY.1 n;exact x7 y0
   have C0:=q.len;obtain⟨pl,o⟩:∃pl,P[i]?=O pl:=⟨_,bS M⟩
   have Q:cR (decide (0<=(i:Int))&&decide ((i:Int)<(P.length:Int)))=O ():=fX cM;obtain⟨b,D0,E0,G0⟩:=p0 x w0;rw[x0]at d;unfold Pq at d;simp only[o,E0]at d;have stop:z=Y->∀(g':Hp)(v:Int),(∃A B,g'={h with v8:=A,oN:=B})->T (O ((v,(110:Int)),g')) λr=>(∃A B,r.2={h with v8:=A,oN:=B})/\GO c z r.1.2:=λR g' v H0=>by rw[R];exact ag ⟨H0,Sz (by decide:(110:Int)≠0) (by rw[ai M])⟩
   simp only[aM,k.k,Q,k.p,dV,o,D0];refine bZ (λm=>stop ?_ _ _ f) λm=>bZ (λS=>stop ?_ _ _ f) λS=>?_
   grind
   .rw[d,ai (by rw[S];simp)]
   obtain⟨T0,I0,J0⟩:=pl;dsimp only at m d;subst m S;rw[aj ⟨rfl,rfl⟩]at d;have d0:=G0 rfl;refine aF (aaX hN k q n d0 o) λw ⟨K0,C⟩=>?_;obtain⟨U0,X0,f⟩:=f;have e0:∃A B,w.2={h with v8:=A,oN:=B}:=⟨_,_,by rw[K0,f]⟩
   cases D:gQ c P i x I0 J0 with
   |none=>grind
   |some L0=>
    rw[D]at C d;obtain⟨C,N0⟩:=C;refine bZ (λe=>?_) λ_=>v0 _ ⟨L0,i+1,rL M,M,N0,Nr q n d0 o D,e0,d⟩ ?_
    grind
    .dsimp only;rw[rL M];omega
  grind
 .obtain ⟨u,g⟩:=s;obtain⟨P,k,q,f,d⟩:=u0;dsimp only at k f⊢;have C0:=q.len;obtain⟨pl,o⟩:∃pl,P[c.length]?=O pl:=⟨_,bS M⟩
  have Q:cR (decide (0<=(c.length:Int))&&decide ((c.length:Int)<(P.length:Int)))=O ():=fX cM;unfold Pq at d;simp only[o]at d;simp only[aM,k.k,Q,k.p,dV,o];have stop:z=Y->∀(v:Int),T (O ((v,(110:Int)),g)) λr=>(∃A B,r.2={h with v8:=A,oN:=B})/\GO c z r.1.2:=λR v=>by rw[R];exact ag ⟨f,Sz (by decide:(110:Int)≠0) (by rw[ai M])⟩
  refine bZ (λm=>stop ?_ _) λm=>ba (λH=>stop ?_ _) λH=>a7 (λU=>stop ?_ _) λU=>?_
  grind
  .rw[d,ai (λa=>H a.2.1)]
  grind
  .have f0:pl.loops=[]:=nQ M;rw[aj ⟨m,H,f0⟩]at d;have P0:pq c P:=RZ (pl:=λ_=>F) (λx n=>by grind) [] c.length P aE q (by unfold Pq;grind);rw[d];exact ag ⟨f,rfl,P0⟩
end
end Go.Proofs.Mo
