import Derived.Test.YtlacgaedkjhfhaaGreatDoorZC26
set_option linter.all false
set_option maxRecDepth 20000
open Option renaming some->O,none->Y
open Bool renaming true->W,false->F
open Go.Proofs.Tryz
namespace Go.Proofs.Mo
open Go Go.Ev Go.X
variable{m:hD}{i p j n:Nat}{id next:Int}{β:Type}{ls:Z cW}{b:Nat->tl}{ps:Z Dm}{c:dt}{f:(Int×xW->V β)->Int×xW->V β}{P:β->Prop}{no:V β}
def EK(l:Z dt)(a:Nat):dB:=(gq l l.length (O a)).foldl zl ⟨0,0⟩
open Classical in
noncomputable def kY (l:Z dt) (P:cI×V Nat->Prop):Z dB:=(List.range l.length).map λa=>if∃s,P (s,O a)then EK l a else⟨0,0⟩
def mY(l:Z dt)(P:cI×V Nat->Prop):(kY l P).length=l.length:=by simp[kY]
def SG{b:Nat}(h:b<128):IntKind.i64.wrap ((b:Int).tdiv 64)=if b<64 then 0 else 1:=by
 have:(b:Int).tdiv 64=((b/64:Nat):Int):=rfl;rw[this];by_cases e:b<64
 .rw[aj e,(M:b/64=0)];decide
 .rw[ai e,(M:b/64=1)];decide
def SH(b:Nat):(b:Int).tmod 64=((b%64:Nat):Int):=rfl
def CA{β:Type}{l:Z dt}{f:((V Nat×Hp)->V β)->(V Nat×Hp)->V β}(H:dB->Hp)(K:Hp->V β)
  (h0:∀rec acc,f rec (Y,H acc)=K (H acc)) (a:∀rec acc b,b<l.length->f rec (O b,H acc)=rec (Dw l (O b),H (zl acc b))):
  ∀(m:Nat)(o:V Nat)(acc:dB)(N:Nat),(∀k,o=O k->k<l.length)->kR l m o=Y->m<N->aZ f N (o,H acc)=K (H ((gq l m o).foldl zl acc))
 |m,o,acc,0,_,_,h=>M|m,Y,acc,N+1,_,_,_=>by rw[j8];exact h0 _ acc
 |0,O k,acc,N+1,_,h,_=>by cases h
 |m+1,O k,acc,N+1,c,h,d=>by show f (aZ f N) (O k,H acc)=_;rw[a _ acc k (c k rfl),CA H K h0 a m (Dw l (O k)) (zl acc k) N (λk' e=>xM e) h M];rfl
section
variable{N:Nat}(hN:1073741824<=N)
include hN
set_option maxHeartbeats 2000000 in
theorem abN(l:Z dt)(h:Hp)(t:zz)(e1:h.dU=[t])(q:t.lh=O 0)(e3:h.jk=[eu 0 l])(u:∀k,k<l.length->∃e,h.et[k]?=O e/\e.number=k/\e.up=Dw l (O k))(C:∀k,k<l.length->O6 l k)(f0:l.length<=128)(g0:0<l.length):
  T (OI N (O 0) h) λr=>r.2={h with hQ:=h.hQ++[O ((List.range l.length).map (EK l))],dU:=[{t with bits:=O (h.hQ.length,l.length)}]}:=by
 obtain⟨h0,qw,ready,bits,v⟩:=t;dsimp only at q;subst q;have D:((eu 0 l).length:Int).toNat=l.length:=by rw[qd];rfl
 unfold OI;simp only[aM,e1,gT,dX,e3,D,bw,s9,List.length_replicate];have E:(List.replicate l.length (dB.mk 0 0)).isEmpty=F:=by cases h':l.length with|zero=>omega|succ n=>rfl
 refine bY (by simp[dG (b:=16) (n:=l.length) (m:=281474976710656) M M]) ?_;simp only[E,bq];refine bY rfl ?_;refine Cx (eu 0 l) (qe l 0) (λP=>((),{h with hQ:=h.hQ++[O (kY l P)],dU:=[{(⟨O 0,qw,ready,bits,v⟩:zz)with bits:=O (h.hQ.length,l.length)}],jk:=[eu 0 l]})) ?_ ?_ ?_
 .have:kY l (λ_=>False)=List.replicate l.length ⟨0,0⟩:=by
   apply sC;intro j;by_cases f:j<l.length
   .simp[kY,f,zN]
   .simp[kY,f,zN]
  rw[this]
 .rintro P ⟨s,o⟩ G I w k;obtain⟨a,c,z,e⟩:=(iR l 0 _).1 I;cases e;rw[cX]at w⊢;have d:a<l.length:=(aY.1 z).1;have J:¬∃s,P (s,O a):=by rintro⟨s,g⟩;obtain⟨i0,j0,A,e⟩:=(iR l 0 _).1 (G _ g);grind
  have K:(kY l P)[a]?=O ⟨0,0⟩:=by simp only[kY,dC,x8 d,cj];grind
  have L:(kY l P).set a ⟨0,0⟩=kY l P:=by
   apply sC;grind
  let H:dB->Hp:=λi=>{h with hQ:=h.hQ++[O ((kY l P).set a i)],dU:=[{(⟨O 0,qw,ready,bits,v⟩:zz)with bits:=O (h.hQ.length,l.length)}],jk:=[eu 0 l]}
  have Q:kY l (λy=>P y∨y=(c.name,O a))=(kY l P).set a (EK l a):=by
   apply sC;intro j;rw[qp];by_cases e:a=j
   .subst e;rw[aj rfl,aj (by grind)];simp only[kY,dC,x8 d,cj];simp_all
   .rw[ai e];by_cases f:j<l.length
    .simp only[kY,dC,x8 f,cj];have:(∃s,P (s,O j)∨(s,O j)=(c.name,O a))↔∃s,P (s,O j):=by
      grind
     by_cases g:∃s,P (s,O j)
     simp_all
     .rw[ai g,ai (λh=>g (this.1 h))]
    .rw[uG (by rw[mY];omega),uG (by rw[mY];omega)]
  rw[Q];conv=>lhs;rw[<-L]
  refine CA (l:=l) H (λh=>k ((),h)) (λrec i=>rfl) (λrec i b R=>?_) l.length (O a) ⟨0,0⟩ N (λk' e=>by grind) (xO C d) M;obtain⟨l0,S,U,m0⟩:=u a d;obtain⟨n0,p,X,B⟩:=u b R;have a0:∀(x:dB),((kY l P).set a x)[a]?=O x:=λx=>by grind
  have b0:∀(x:Z dB),bz (h.hQ++[O x]) h.hQ.length=O x:=λx=>by simp[bz]
  have c0:cR (decide (0<=(a:Int))&&decide ((a:Int)<(l.length:Int)))=O ():=fX cM;have d0:cR (decide ((64:Int)≠0))=O ():=rfl;have e0:cR (decide (0<=((b%64:Nat):Int)))=O ():=fX (by rw[aU];omega);simp only[H,l7,M3,bf,aM,gT,S,p,U,X,c0,d0,SG (show b<128 by omega),SH,e0,bp,b0,dV,a0,bw];by_cases e:b<64
  .simp only[aj e,show((0:Int)==0)=W from rfl,bf,List.set_append_right _ _ (a6 _),wH,s9,zU,p,aM,B,zl,Ji,e,ca];rfl
  .simp only[ai e,show((1:Int)==0)=F from rfl,show((1:Int)==1)=W from rfl,bf,bq,List.set_append_right _ _ (a6 _),wH,s9,zU,p,aM,B,zl,Ji,e,cG];rfl
 .refine ag ?_;have:kY l (λx=>x∈eu 0 l)=(List.range l.length).map (EK l):=by
   apply sC;intro j;by_cases f:j<l.length
   .simp only[kY,dC,x8 f,cj];rw[aj ⟨l[j].name,(iR l 0 _).2 ⟨j,l[j],bS f,aE⟩⟩]
   .rw[uG (by rw[mY];omega),uG cM]
  grind
theorem YT(h:Hp)(t:zz)(e1:h.dU=[t])(a:t.lh=O 0)(e3:h.jk=[[]]):T (OI N (O 0) h) λr=>r.2={h with dU:=[{t with bits:=O (h.hQ.length,0)}]}:=by obtain⟨b,qw,ready,bits,c⟩:=t;dsimp only at a;subst a;unfold OI;simp only[aM,e1,gT,dX,e3,kU,bw,s9];exact⟨_,rfl,rfl⟩
def Fr(h h':Hp):Prop:=∃A B,h'={h with dU:=A,hQ:=B}
def uu(ls:Z cW)(a b:cI):tl:=(ij ls a).any (λx=>x.name==b)||a==b
omit hN in
theorem VJ(l:Z dt)(p:l.length<=128):SE l ((List.range l.length).map (EK l)):=by
 refine⟨aE,λa r f=>?_⟩;rw[dC]at f;obtain⟨a',d,rfl⟩:=ck.1 f;obtain⟨g,rfl⟩:a<l.length/\a=a':=by grind
 have h0:EJ ⟨0,0⟩:=⟨cd,cd,cd,cd⟩
 obtain⟨⟨c,h,i,j⟩,m⟩:=WM h0 (gq l l.length (O a)) λx n=>by have:=xP (o:=O a) (λk e=>by grind) x n;omega
 refine⟨c,h,i,j,λb q=>?_⟩;unfold EK;rw[m b M];have:sY ⟨0,0⟩ b=F:=by unfold sY;simp
 grind
omit hN in
theorem ur.abO {h:Hp} (b:ur ls h) {k:Nat} (a:(cs ls)[k]?=O c):ij ls c.name=(gq (cs ls) (cs ls).length (O k)).filterMap λq=>(cs ls)[q]?:=by
 have d:k<(cs ls).length:=(aY.1 a).1;have f:=xO b.xQ d;have l:=b.len;have g:ix (cs ls) c.name=O k:=by have:=nG (i:=0) b.j7 a;grind
 have j:iv ls c.name=O c:=by rw[wk,g];grind
 have:=qf (ls:=ls) 129 (O k) (λk' e=>by grind);rw[(M:129=(cs ls).length+(129-(cs ls).length)),rP _ f,<-(M:129=(cs ls).length+(129-(cs ls).length))]at this;rw[<-this];unfold ij;grind
omit hN in
theorem O7{h:Hp}(f:ur ls h){d:dt}{x y:Nat}(g:(cs ls)[x]?=O c)(j:(cs ls)[y]?=O d):decide (y∈gq (cs ls) (cs ls).length (O x))=uu ls c.name d.name:=by
 have s:x<(cs ls).length:=(aY.1 g).1;have t:=f.len;unfold uu;rw[f.abO g];have k:=f.j7;have l:∀q e,(cs ls)[q]?=O e->(e.name=d.name↔q=y):=λq e a=>by
  constructor
  .intro b;have m:=nG (i:=0) k a;have o:=nG (i:=0) k j;grind
  .rintro rfl;rw[j]at a;cases a;rfl
 rw[Hb];simp only[aU,kS,List.any_eq_true,gH,JN];constructor
 grind
 .rintro (⟨e,⟨q,p,a⟩,b⟩|b)
  grind
  .rw[<-(l x c g).1 b];obtain⟨n,r⟩:∃n,(cs ls).length=n+1:=⟨(cs ls).length-1,M⟩
   rw[r];simp[gq]
omit hN in
theorem CB{h:Hp}(g:ur ls h){a b:cI}(c:ix (cs ls) a=Y∨ix (cs ls) b=Y):(a==b)=uu ls a b:=by
 unfold uu;rcases c with c|c
 .have:iv ls a=Y:=by rw[wk,c];rfl
  unfold ij;rw[this];rfl
 .have:(ij ls a).any (λx=>x.name==b)=F:=by rw[uD];intro x d;have e:=qb (ls:=ls) 129 _ (λz f=>(sj f).1) x d;simpa using Cu c x e
  grind
theorem abP(ls:Z cW)(v0:jx ls)(a b:cI)(h:Hp)(g:ur ls h):T (GC N (O 0,a,b) h) λr=>r.1=uu ls a b/\ur ls r.2/\Fr h r.2:=by
 obtain⟨t,e1,e2,e3,n⟩:=g.dU;have K:(t.lh).isNone=F:=by grind
 have L:∀(l:Hp),ur ls l->Fr h l->T (Ux N (0,O 0) l) λr=>ur ls r.2/\Fr h r.2/\∃v,r.2.dU=[v]/\v.ready.done.v≠0:=by
  intro l f hi;obtain⟨t,e1,e2,e3,n⟩:=f.dU;unfold Ux;simp only[e1,gT,aM];refine ao (λj=>ag ⟨f,hi,t,e1,by grind⟩) λj=>?_;simp only[qn,gH]at j;rcases n with⟨_,P⟩|⟨Q,_⟩
  .have R:∀k,k<(cs ls).length->∃e,l.et[k]?=O e/\e.number=k/\e.up=Dw (cs ls) (O k):=λk w=>by obtain⟨e,he,z⟩:=f.et k _ (bS w);exact⟨e,he,z.number,by rw[z.up];simp[Dw,w]⟩
   refine bY (by grind) ?_;by_cases C:0<(cs ls).length
   .refine aF (abN hN (cs ls) {l with dU:=[jL t 1]} (jL t 1) rfl e2 f.jk R f.xQ f.len C) λy p=>?_;rw[p];simp only[gT,aM];refine bY (by simp[jL,j]) (ag ⟨⟨⟨_,rfl,e2,e3,.inr ⟨by simp[jL,uc],λ_=>⟨l.hQ.length,_,?_,?_,VJ (cs ls) f.len⟩⟩⟩,f.jk,f.j7,f.len,f.et,f.xQ,f.named⟩,?_,_,rfl,by simp[jL,uc]⟩)
    .simp[jL,uc]
    .simp[bz]
    .obtain ⟨A,B,e⟩:=hi;rw[e];exact⟨_,_,rfl⟩
   .have S:cs ls=[]:=nQ M;refine aF (YT hN {l with dU:=[jL t 1]} (jL t 1) rfl e2 (by have:=f.jk;rw[S]at this;exact this)) λy p=>?_;rw[p];simp only[gT,aM];refine bY (by simp[jL,j]) (ag ⟨⟨⟨_,rfl,e2,e3,.inr ⟨by simp[jL,uc],λh=>(C h).elim⟩⟩,f.jk,f.j7,f.len,f.et,f.xQ,f.named⟩,?_,_,rfl,by simp[jL,uc]⟩);obtain⟨A,B,e⟩:=hi;rw[e];exact⟨_,_,rfl⟩
  grind
 unfold GC;simp only[l7,bq,aM,e1,gT,K];have U:Uw N (0,1) h=O (IntKind.i64.wrap (t.mw.v+1),{h with dU:=[RD t (IntKind.i64.wrap (t.mw.v+1))]}):=by unfold Uw;grind
 rw[U];simp only[aM];have X:ur ls {h with dU:=[RD t (IntKind.i64.wrap (t.mw.v+1))]}:=⟨⟨_,rfl,e2,e3,n⟩,g.jk,g.j7,g.len,g.et,g.xQ,g.named⟩
 refine aF (L _ X ⟨_,_,rfl⟩) λy ⟨m,hi,t3,f1,a0⟩=>?_;obtain⟨b0,g1,g2,g3,s⟩:=m.dU;obtain rfl:t3=b0:=by grind
 have c0:=m.jk;have d0:∀o:V Nat,(Option.map O o).getD Y=o:=λo=>by cases o<;>rfl
 simp only[f1,gT,aM,g2,dX,c0,eN,d0];cases D:wj 0 (cs ls) a with
 |none=>exact ag ⟨CB g (.inl D),m,hi⟩|some x=>
  simp only[l7,bq];cases E:wj 0 (cs ls) b with
  |none=>exact ag ⟨CB g (.inr E),m,hi⟩|some q=>
   obtain⟨e0,c,G,rfl⟩:=Cw D;obtain⟨f0,d,j,rfl⟩:=Cw E;obtain⟨ex,hex,g0⟩:=m.et x c G;obtain⟨eq,i0,j0⟩:=m.et q d j;rcases s with⟨h0,_⟩|⟨_,s⟩
   grind
   obtain⟨i,rows,l0,m0,H,n0⟩:=s M;have w0:=g.len;obtain⟨r,I⟩:∃r,rows[x]?=O r:=⟨_,bS (by grind)⟩
   obtain⟨o0,b2,p0,q0,r0⟩:=n0 x r I;have u:=r0 q f0;rw[O7 g G j]at u;have s0:cR (decide ((64:Int)≠0))=O ():=rfl;have t0:cR (decide (0<=(x:Int))&&decide ((x:Int)<(rows.length:Int)))=O ():=fX (by grind);have u0:cR (decide (0<=((q%64:Nat):Int)))=O ():=fX (by rw[aU];omega);simp only[l7,bq,aM,hex,i0,g0.number,j0.number,s0,l0,t0,SG (show q<128 by omega),SH,u0,bp,m0,I,dV];have J:q%64<64:=Nat.mod_lt _ cd;by_cases e:q<64
   .simp only[aj e,show((0:Int)==0)=W from rfl,bf];refine ag ⟨?_,m,hi⟩;rw[<-u,ND o0 b2 J];unfold sY;rw[aj e,(M:q%64=q)]
   .simp only[ai e,show((1:Int)==0)=F from rfl,show((1:Int)==1)=W from rfl,bf,bq];refine ag ⟨?_,m,hi⟩;rw[<-u,ND p0 q0 J];unfold sY;rw[ai e,(M:q%64=q-64)]
end
def zF(s p:cI):tl:=decide (p.length<=s.length)&&(s.take p.length==p)
def sq(c:Int):tl:=decide (c≥65)&&decide (c<=90)||decide (c≥97)&&decide (c<=122)
def NE(s p:cI):cI:=if zF s p then s.drop p.length else s
def YU(c:Int):tl:=sq c||(decide (48<=c)&&decide (c<=57))||decide (c=95)
def iS(s:cI):tl:=decide (s.length<=32)&&(match s with
 |[]=>F|c::_=>sq c.toNat)&&s.all λc=>YU c.toNat
def iy(s:cI):tl:=iS (NE s [63])
def ln(m:hD):Prop:=∀(i j:Nat)(hi:i<j)(a:j<m.ay.length),(m.ay[i]'M).iD<m.ay[j].iD
def Pt(m:hD)(id:Int):Int:=match m.ay.findIdx? (·.iD==id)with
 |some i=>i|none=>-1
def wu(a:ln m)(hi:i<m.ay.length):Pt m m.ay[i].iD=i:=by
 have:m.ay.findIdx? (·.iD==m.ay[i].iD)=O i:=by rw[List.findIdx?_eq_some_iff_getElem];refine⟨hi,aE,λj b=>?_⟩;have:=a j i b hi;simp;omega
 unfold Pt;grind
theorem CD(h:∀n∈m.ay,n.iD≠id):Pt m id=-1:=by
 have:m.ay.findIdx? (·.iD==id)=Y:=by rw[List.findIdx?_eq_none_iff];intro n a;simpa using h n a
 unfold Pt;rw[this]
theorem at_end(c:ln m){q:Nat}(o:q<=m.ay.length)(d:∀i(hi:i<m.ay.length),i<q->m.ay[i].iD<id)(f:∀i(hi:i<m.ay.length),q<=i->¬m.ay[i].iD<id):
  (if h:q<m.ay.length then(if m.ay[q].iD=id then(q:Int)else-1)else-1)=Pt m id:=by
 have Y:(∀(h:q<m.ay.length),m.ay[q].iD≠id)->Pt m id=-1:=λh=>CD λn g e=>by
  obtain⟨i,hi,rfl⟩:=gX g;by_cases j:i<q
  grind
  .have a:q<m.ay.length:=M;have k:=h a;have p:=f q a (a6 _);by_cases l:q=i
   grind
   .have:=c q i M hi;omega
 split
 .rename_i a;split
  .rename_i b;rw[<-b,wu c a]
  .rename_i b;exact (Y λ_=>b).symm
 .rename_i a;exact (Y λh=>(a h).elim).symm
def O8{x:Int}(a:-18446744073709551616<x)(b:x<18446744073709551616)(h:IntKind.i64.wrap x=0):x=0:=by simp only[IntKind.wrap,IntKind.bits,IntKind.signed]at h;simp at h;omega
structure LK(n:Nd):Prop where
 aw:n.aw.length<=1048576
 role:n.role.length<=1048576
 bl:n.bl.length<=1048576
 name:∀p∈n.bl,p.name.length<=1048576
 bj:n.bj.length<=1048576
 kid:∀k∈n.bj,jc k
 ab:n.ab.length<=1048576
 abQ:∀r∈n.ab,r.role.length<=1048576
 cQ:jc n.cQ
structure xR(m:hD):Prop where
 len:m.ay.length<=4096
 node:∀n∈m.ay,LK n
def mO(ps:Z Dm)(i:Nat):tl:=if h:i<ps.length then((!iy ps[i].name)||decide ((ps[i].value.length:Int)>4096))||(if h:0<i then !Op.bytesLess ps[i-1].name ps[i].name else F)else F
def qi(next:Int)(rs:Z Rf)(i:Nat):tl:=if h:i<rs.length then(((!iy rs[i].role)||decide (rs[i].target<1))||decide (rs[i].target≥next))||(if h:0<i then !Op.bytesLess rs[i-1].role rs[i].role else F)else F
def lR(ps:Z Dm):tl:=(List.range ps.length).any (mO ps)
def ou(next:Int)(rs:Z Rf):tl:=(List.range rs.length).any (qi next rs)
def iT(m:hD)(n:Nd):tl:=(iy n.aw&&((decide (n.cQ=0)==decide (n.role=[]))&&(decide (n.role=[])||iy n.role)))&&(decide (n.bj.length<=m.ay.length)&&(!lR n.bl&&!ou m.next n.ab))
def SI(m:hD)(n:Nd):tl:=iy n.aw&&(decide (n.bj.length<=m.ay.length)&&(!lR n.bl&&!ou m.next n.ab))
theorem Jk(b:ln m)(id:Int):(Pt m id=-1/\∀n∈m.ay,n.iD≠id)∨∃i,∃hi:i<m.ay.length,Pt m id=(i:Int)/\m.ay[i].iD=id:=by
 by_cases h:∃n∈m.ay,n.iD=id
 .obtain ⟨n,a,rfl⟩:=h;obtain⟨i,hi,rfl⟩:=gX a;exact .inr ⟨i,hi,wu b hi,rfl⟩
 .have h':∀n∈m.ay,n.iD≠id:=λn a e=>h ⟨n,a,e⟩;exact .inl ⟨CD h',h'⟩
def CE(a:ln m)(hi:i<m.ay.length)(b:j<m.ay.length)(h:m.ay[i].iD=m.ay[j].iD):i=j:=by
 rcases qX i j with h1|h1|h1
 .have:=a i j h1 b;omega
 grind
 .have:=a j i h1 hi;omega
def nH(a:ln m){x y:Nd}(b:x∈m.ay)(c:y∈m.ay)(h:x.iD=y.iD):x=y:=by obtain⟨i,hi,rfl⟩:=gX b;obtain⟨j,d,rfl⟩:=gX c;have:=CE a hi d h;grind
def yR(m:hD)(n:Nd)(k:Int):Prop:=∃x∈m.ay,x.iD=k/\x.cQ=n.iD
instance(m:hD)(n:Nd)(k:Int):Decidable (yR m n k):=by unfold yR;infer_instance
def EM(m:hD)(n:Nd):tl:=decide ((∀k∈n.bj,yR m n k)/\n.bj.Nodup)
def gR(m:hD)(id:Int):V Nd:=m.ay.find? (·.iD==id)
def lS(a:ln m)(hi:i<m.ay.length):gR m m.ay[i].iD=O m.ay[i]:=by unfold gR;rw[List.find?_eq_some_iff_getElem];refine⟨aE,i,hi,rfl,λj b=>?_⟩;have:=a j i b hi;simp;omega
theorem Jl(h:∀n∈m.ay,n.iD≠id):gR m id=Y:=by unfold gR;rw[List.find?_eq_none];intro n a;simpa using h n a
theorem nI{x:Nd}(h:gR m id=O x):x∈m.ay/\x.iD=id:=by unfold gR at h;exact⟨List.mem_of_find?_eq_some h,by have:=List.find?_some h;simpa using this⟩
def oL(m:hD):Nat->Nd->tl
 |0,_=>F|f+1,n=>if n.cQ=0 then decide (n.role=[])else match gR m n.cQ with
  |none=>F|some p=>(iy n.role&&decide (n.iD∈p.bj))&&oL m f p
def wv(m:hD):tl:=!((decide (m.next<1)||decide (m.next>1048577))||decide ((m.ay.length:Int)>4096))
def SJ(m:hD)(i:Nat):tl:=if h:i<m.ay.length then(decide (m.ay[i].iD<1)||decide (m.ay[i].iD≥m.next))||(if h:0<i then decide (m.ay[i].iD<=m.ay[i-1].iD)else F)else F
def SK(m:hD):tl:=!(List.range m.ay.length).any (SJ m)
def fJ(m:hD):tl:=wv m&&(SK m&&m.ay.all λn=>(SI m n&&EM m n)&&oL m 64 n)
def LM(h:SK m=W):ln m/\∀n∈m.ay,1<=n.iD/\n.iD<m.next:=by
 unfold SK at h;simp only[il,uD,px]at h;have h':∀i(hi:i<m.ay.length),1<=m.ay[i].iD/\m.ay[i].iD<m.next/\∀h:0<i,m.ay[i-1].iD<m.ay[i].iD:=λi hi=>by have:=h i hi;unfold SJ at this;grind
 have g:∀(d i:Nat)(f:i+d+1<m.ay.length),(m.ay[i]'M).iD<m.ay[i+d+1].iD:=by
  intro d;induction d with
  |zero=>grind|succ d k=>intro i f;have p:=k i M;have l:=(h' (i+(d+1)+1) f).2.2 M;have e:i+(d+1)+1-1=i+d+1:=M;simp only[e]at l;omega
 refine⟨λi j q f=>?_,λn o=>?_⟩
 .obtain ⟨d,rfl⟩:∃d,j=i+d+1:=⟨j-i-1,M⟩
  simp_all
 .obtain ⟨i,hi,rfl⟩:=gX o;grind
def xS(m:hD)(a:Z Int):Z Int:=m.ay.map λn=>((a.count n.iD:Nat):Int)
def Jm(a:Z Int)(b:j<m.ay.length):(xS m a)[j]?=O ((a.count m.ay[j].iD:Nat):Int):=by simp[xS,b]
def SL(b:ln m)(a:Z Int)(c:j<m.ay.length):(xS m a).set j (((a.count m.ay[j].iD+1:Nat)):Int)=xS m (a++[m.ay[j].iD]):=by
 apply List.ext_getElem
 .simp[xS]
 .intro i d f;have hi:i<m.ay.length:=by simpa[xS]using d
  rw[List.getElem_set];split
  .rename_i e;subst e;simp[xS]
  .rename_i e;have:m.ay[j].iD≠m.ay[i].iD:=λh=>e (CE b c hi h);simp[xS,List.count_cons,this]
def hB(m:hD):Nat->Nd->tl
 |0,_=>F|f+1,n=>if n.cQ=0 then W else match gR m n.cQ with
  |none=>F|some p=>hB m f p
structure EN(m:hD):Prop where
 ok:xR m
 sorted:ln m
 qM:∀n∈m.ay,1<=n.iD/\n.iD<=1048576
def EO(hi:i<m.ay.length):(m.ay.take (i+1)).flatMap Nd.bj=(m.ay.take i).flatMap Nd.bj++m.ay[i].bj:=by rw[PC hi,qS];grind
def CF{m:hD}{c:Nat}(a:∀n∈m.ay,n.bj.length<=c):∀i:Nat,((m.ay.take i).flatMap Nd.bj).length<=i*c
 |0=>by grind|i+1=>by
  have b:=CF a i;by_cases hi:i<m.ay.length
  .have d:=a _ (gw hi);rw[EO hi,ey,Nat.succ_mul];omega
  .rw[dh (by omega:m.ay.length<=i)]at b;rw[dh (by omega:m.ay.length<=i+1),Nat.succ_mul];omega
def O9(a:xR m)(i:Nat):((m.ay.take i).flatMap Nd.bj).length<=i*1048576:=CF (λn b=>(a.node n b).bj) i
def jM(m:hD)(n:Nd):tl:=if n.cQ=0 then decide ((m.ay.flatMap Nd.bj).count n.iD=0)else decide ((m.ay.flatMap Nd.bj).count n.iD=1)
def uv(m:hD):Prop:=∀n∈m.ay,∀k∈n.bj,yR m n k
instance(m:hD):Decidable (uv m):=by unfold uv;infer_instance
def wx(a:ln m)(g:uv m)(h:m.ay.all (jM m)=W):∀n∈m.ay,n.cQ≠0->∃x,gR m n.cQ=O x/\n.iD∈x.bj:=λn b j=>by have c:=cS.1 h n b;unfold jM at c;rw[ai j,aU]at c;have k:n.iD∈m.ay.flatMap Nd.bj:=List.count_pos_iff.1 M;obtain⟨x,d,f⟩:=EW.1 k;obtain⟨y,l,o,p⟩:=g x d _ f;have e:=nH a l b o;subst e;obtain⟨i,hi,rfl⟩:=gX d;exact⟨_,by rw[p];exact lS a hi,f⟩
def jN(m:hD):tl:=decide (uv m)&&(m.ay.all (jM m)&&m.ay.all (hB m 64))
def qj{k:Int}:∀{l:Z Nd},(∀x∈l,k∉x.bj)->(l.flatMap Nd.bj).count k=0
 |[],_=>rfl|x::l,h=>by rw[sD,Hf,List.count_eq_zero.2 (h x aE),qj λy a=>h y (by grind)]
def Jn(a:ln m):m.ay.Nodup:=by rw[EZ,JO];intro i j hi b c h;have d:=a i j c b;grind
def Pa(f:ln m){p:Nd}(g:p∈m.ay){k:Int}(h:∀x∈m.ay,x≠p->k∉x.bj):(m.ay.flatMap Nd.bj).count k=p.bj.count k:=by obtain⟨j,l,e⟩:=List.append_of_mem g;have c:=Jn f;rw[e]at c;have d:=EY.1 c;have i:=lV.1 d.2.1;rw[e,qS,sD,Hf,Hf,qj (λx a=>h x (by grind) (λb=>d.2.2 x a p aE b)),qj (λx a=>h x (by grind) (λb=>i.1 (b▸a)))];omega
def SM{p:Nd}(a:p∈m.ay)(k:Int):p.bj.count k<=(m.ay.flatMap Nd.bj).count k:=by obtain⟨b,c,e⟩:=List.append_of_mem a;grind
def SN:iy []=F:=rfl
def xT(m:hD)(n:Nd):iT m n=W↔SI m n=W/\((n.cQ=0/\n.role=[])∨(n.cQ≠0/\n.role≠[]/\iy n.role=W)):=by
 unfold iT SI;by_cases d:n.cQ=0<;>by_cases e:n.role=[]<;>simp[d,e];constructor
 .rintro ⟨⟨a,b⟩,c⟩;exact ⟨⟨a,c⟩,b⟩
 .rintro ⟨⟨a,c⟩,b⟩;exact ⟨⟨a,b⟩,c⟩
def yS(m:hD):∀(f:Nat)(n:Nd),oL m f n=W->hB m f n=W
 |0,n,h=>by cases h
 |f+1,n,h=>by
  unfold oL at h;unfold hB;split
  .rfl
  .rename_i a;rw[ai a]at h;split at h
   grind
   .rename_i p b;simp only[aI]at h;exact yS m f p h.2
def rQ(q:EN m):(m.ay.all (iT m)&&jN m)=m.ay.all λn=>(SI m n&&EM m n)&&oL m 64 n:=by
 have i:=q.sorted;rw[Hb];simp only[aI,cS];constructor
 .rintro ⟨v,r⟩;unfold jN at r;simp only[aI,aU]at r;obtain⟨g,w,C⟩:=r;have D:=wx i g w;have b:∀(f:Nat)(n:Nd),n∈m.ay->hB m f n=W->oL m f n=W:=by
   intro f;induction f with
   |zero=>intro n a h;cases h
   |succ f E=>
    intro n a h;have d:=((xT m n).1 (v n a)).2;unfold hB at h;unfold oL;split
    grind
    .rename_i c;rw[ai c]at h;obtain⟨x,z,G⟩:=D n a c;rw[z]at h⊢;rcases d with⟨d,_⟩|⟨_,_,d⟩
     grind
     .simp only[d,G,decide_true,Bool.and_self,oO];exact E x (nI z).1 h
  intro n a;refine⟨⟨((xT m n).1 (v n a)).1,?_⟩,b 64 n a (cS.1 C n a)⟩;unfold EM;rw[aU];refine⟨g n a,List.nodup_iff_count.2 λk=>?_⟩;by_cases A:k∈n.bj
  .obtain ⟨y,j,l,s⟩:=g n a k A;have B:=cS.1 w y j;have L:=q.qM n a;unfold jM at B;rw[ai M,aU,l]at B;have:=SM a k;omega
  grind
 .intro h;have g:uv m:=λn a=>by have:=(h n a).1.2;unfold EM at this;grind
  refine⟨λn a=>(xT m n).2 ⟨(h n a).1.1,?_⟩,?_⟩
  .have b:=(h n a).2;unfold oL at b;by_cases c:n.cQ=0
   grind
   .rw[ai c]at b;split at b
    .cases b
    .simp only[aI]at b;refine .inr ⟨c,λe=>?_,b.1.1⟩;rw[e,SN]at b;grind
  .unfold jN;simp only[aI,aU,cS];refine⟨g,λn a=>?_,λn a=>yS m 64 n (h n a).2⟩;unfold jM;by_cases c:n.cQ=0
   .rw[aj c,aU];refine qj λx o t=>?_;obtain⟨y,j,l,s⟩:=g x o _ t;have e:=nH i j a l;subst e;have:=q.qM x o;omega
   .rw[ai c,aU];have b:=(h n a).2;unfold oL at b;rw[ai c]at b;split at b
    .cases b
    .rename_i p H;simp only[aI,aU]at b;obtain⟨u,I⟩:=nI H;have J:p.bj.Nodup:=by have:=(h p u).1.2;unfold EM at this;grind
     rw[Pa i u (λx o K t=>by obtain⟨y,j,l,s⟩:=g x o _ t;have e:=nH i j a l;subst e;exact K (nH i o u (by rw[I,s])))];grind
def uw(m:hD)(i:Nat):Int:=if h:0<i/\i<=m.ay.length then(m.ay[i-1]'M).iD else 0
def SO:Nd:=⟨0,[],0,[],[],[],[]⟩
def Jo(m:hD)(id:Int):Nd×tl:=if fJ m=W then(match gR m id with
 |some x=>(x,W)|none=>(SO,F))else(SO,F)
def rR(b:xR m)(h:fJ m=W):EN m:=by unfold fJ at h;rw[aI,aI]at h;obtain⟨a,c,g⟩:=h;obtain⟨d,e⟩:=LM c;unfold wv at a;simp only[il,x4,cY]at a;exact⟨b,d,λn f=>by grind⟩
def CG(p:Int)(c:Int):Prop:=((65<=c/\c<=90)∨(97<=c/\c<=122))∨(p≠0/\((48<=c/\c<=57)∨c=95))
def lp(c:Int):sq c=W↔(65<=c/\c<=90)∨(97<=c/\c<=122):=by simp[sq,ge_iff_le]
def Vs(c:Int):YU c=W↔((65<=c/\c<=90)∨(97<=c/\c<=122))∨((48<=c/\c<=57)∨c=95):=by
 simp only[YU,kS,lp,aI,aU];grind
def CH(y:cI):iS y=W↔y.length<=32/\0<y.length/\∀(i:Nat)(c:NT),y[i]?=O c->CG i (c.toNat:Int):=by
 unfold iS;simp only[aI,aU];cases y with
 |nil=>simp|cons a y=>
  simp only[ec,lp,cS,Vs];constructor
  .rintro ⟨⟨e,f⟩,b⟩;refine⟨e,M,λi c d=>?_⟩;cases i with
   |zero=>cases d;exact .inl f
   |succ i=>
    rcases b c (bF d)with h|h
    .exact .inl h
    .exact .inr ⟨M,h⟩
  .rintro ⟨e,_,b⟩;refine⟨⟨e,?_⟩,λc d=>?_⟩
   .rcases b 0 a rfl with h|⟨h,_⟩
    grind
    .simp at h
   .obtain ⟨i,hi,rfl⟩:=gX d;rcases b i _ (bS hi)with h|⟨_,h⟩
    grind
    .exact .inr h
section
variable{N:Nat}(hN:1073741824<=N)
include hN
theorem VK{y:cI}(l:y.length<=32)(h0:0<y.length)
  (step:∀rec p,0<=p->p<=(y.length:Int)->(p<(y.length:Int)->∀c,y[p.toNat]?=O c->¬CG p (c.toNat:Int)->iS y=F)->(iS y=W->p=(y.length:Int)->True)->((∀c,y[p.toNat]?=O c->CG p (c.toNat:Int))->p<(y.length:Int)->T (rec (p+1,())) P)->(p=(y.length:Int)->iS y=W)->T (f rec (p,())) P):T (aZ f N (0,())) P:=by
 refine aP (λs=>0<=s.1/\s.1<=y.length/\∀(i:Nat)(c:NT),(i:Int)<s.1->y[i]?=O c->CG i (c.toNat:Int)) (λs=>(y.length-s.1).toNat) ⟨aE,aE,λi c h=>by grind⟩ dY ?_;rintro rec ⟨p,u⟩ ⟨d,g,b⟩ m;dsimp only at d g b;refine step rec p d g (λj c a n=>?_) (λ_ _=>trivial) (λo j=>m _ ⟨dY,dY,λi c hi a=>?_⟩ dY) (λj=>(CH y).2 ⟨l,h0,λi c a=>b i c ?_ a⟩)
 .cases e:iS y with
  |false=>rfl|true=>have:=((CH y).1 e).2.2 p.toNat c a;grind
 .by_cases e:(i:Int)<p
  .exact b i c e a
  .dsimp only at hi;have:p.toNat=i:=M;have k:=o c (by rw[this];exact a);rw[(M:p=(i:Int))]at k;exact k
 grind
theorem WO(a:Int):T (RQ N a) λr=>r=sq a:=by unfold RQ;refine ao (λc=>ao (λd=>ag ?_) (λd=>ao (λb=>ag ?_) (λb=>ag ?_))) (λc=>ao (λb=>ag ?_) (λb=>ag ?_));all_goals(simp only[aU,cY]at*;rw[Hb,lp];simp;try omega)
theorem abR(s p:cI):T (U7 N (s,p)) λr=>r=zF s p:=by
 unfold U7 zF;refine ao (λh=>?_) λh=>ag ?_
 .simp only[aU]at h;have:p.length<=s.length:=M;refine bY cM (ag ?_);grind
 .simp only[cY]at h;have:¬p.length<=s.length:=M;simp[this]
theorem abS(s p:cI):T (U8 N (s,p)) λr=>r=NE s p:=by
 unfold U8 NE;refine aF (abR hN s p) λy a=>?_;subst a;refine ao (λh=>?_) λh=>ag (by grind);have b:p.length<=s.length:=by simp only[zF,aI,aU]at h;grind
 refine bY cM (ag ?_);rw[h];simp
theorem abT(s p:cI):T (U9 N (s,p)) λr=>r=NE s p:=by unfold U9;exact aF (abS hN s p) λy a=>ag a
theorem NF(s:cI)(L:s.length<=1048576):T (Cj N s) λr=>r=iy s:=by
 unfold Cj;refine aF (abT hN s [63]) λy o=>?_;have q:iy s=iS y:=by rw[iy,o]
 rw[q];clear q o;refine ao (λh=>ag ?_) λC=>ao (λh=>ag ?_) λi=>?_
 .have:y=[]:=by grind
  subst this;rfl
 .simp only[aU]at h;have:¬y.length<=32:=M;simp[iS,this]
 .simp only[cY,iB]at i;have h0:0<y.length:=by
   grind
  refine aH M M λt _ k=>aF (WO hN _) λz l=>ao (λh=>ag ?_) λu=>?_
  .cases e:iS y with
   |false=>rfl|true=>
    have:=((CH y).1 e).2.2 0 t k;rw[l]at h;simp only[il,<-LY,lp]at h;rcases this with h'|⟨h',_⟩
    grind
    .simp at h'
  .refine az (λ_=>iS y=W) (λJ v=>bY (jg (fk (by omega:y.length<=32) cd)) ?_) (λ_ h=>ag h.symm);refine VK hN (y:=y) M M λrec p w P g _ a x=>?_;rw[dd];refine ao (λd=>?_) λd=>v _ (x (by grind));simp only[aU]at d;rw[fG M M];obtain⟨c,D,E,f⟩:=ib w d;have A:aR (y.map λc:NT=>(c.toNat:Int)) p=O (c.toNat:Int):=by obtain⟨j,rfl⟩:=lG w;rw[nz,dC];grind
   rw[A];simp only[aM];have g:=g d c f;have a:=λG=>a (λQ i=>by rw[f]at i;cases i;exact G) d;refine aF (WO hN _) λz2 H=>?_;subst H;have IV:p=0->sq (c.toNat:Int)=W:=λm=>by grind
   unfold CG at g a;rw[lp]at IV;have B:=lp (c.toNat:Int);clear v x A D f E k l u;generalize(c.toNat:Int)=z at*;refine ao (λb=>?_) (λb=>?_)
   .have b:¬((65<=z/\z<=90)∨(97<=z/\z<=122)):=by rw[<-B];simpa using b
    have R:p≠0:=λm=>b (IV m);refine ao (λI=>ao (λn=>ag (g ?_).symm) (λn=>a ?_)) (λI=>ao (λK=>ao (λn=>ag (g ?_).symm) (λn=>a ?_)) (λK=>a ?_))<;>simp only[aU,cY,il,qn,gH,ic,ne_eq]at*<;>omega
   grind
theorem YV{a hi:Int}(h0:0<=a)(b:a<=hi)(c:hi<=1048576):IntKind.i64.wrap ((IntKind.u64.wrap (IntKind.i64.wrap (a+hi))).fdiv (2^(min 1 IntKind.u64.bits)))=(a+hi)/2:=by have e:(2:Int)^(min 1 IntKind.u64.bits)=2:=rfl;rw[e,fG (x:=a+hi) M M,wq M M,Int.fdiv_eq_ediv_of_nonneg _ M,fG M M]
theorem SQ(m:hD)(v:ln m)(g:∀n∈m.ay,1<=n.iD/\n.iD<=1048576)(b0:m.ay.length<=1048576)(id:Int)(z:jc id):T (Dn N (m,id)) λr=>r=Pt m id:=by
 have c0:=z.1;have d0:=z.2;have G:T (Ul N (m.ay,id,λ(H,I)=>Um N (H,I))) λr=>(bif !r.2 then(-1:Int)else r.1)=Pt m id:=by
  unfold Ul Um;refine az (λs=>0<=s.1/\s.1<=m.ay.length/\(-1073741824<=id/\id<=1073741824->(∀i(hi:i<m.ay.length),(i:Int)<s.1->m.ay[i].iD<id)/\∀i(hi:i<m.ay.length),s.1<=(i:Int)->¬m.ay[i].iD<id)) (λJ K=>?_) (λx b=>?_)
  .refine aP (λs=>0<=s.1.1/\s.1.1<=s.1.2/\s.1.2<=m.ay.length/\(-1073741824<=id/\id<=1073741824->(∀i(hi:i<m.ay.length),(i:Int)<s.1.1->m.ay[i].iD<id)/\∀i(hi:i<m.ay.length),s.1.2<=(i:Int)->¬m.ay[i].iD<id)) (λs=>(s.1.2-s.1.1).toNat) ⟨aE,aE,aE,λ_=>⟨λi hi h=>by grind,λi hi h=>by simp at h;omega⟩⟩ dY ?_;rintro rec ⟨⟨j,hi⟩,u⟩ ⟨w,A,L,d⟩ B;dsimp only at w A L d;refine ao (λa=>?_) (λa=>K _ ⟨w,dY,λh=>⟨(d h).1,?_⟩⟩)
   .simp only[aU]at a;rw[YV hN w A M];have e0:j<=(j+hi)/2:=M;have f0:(j+hi)/2<hi:=M;generalize(j+hi)/2=mid at*;refine bY cd (aH M M λx b k=>?_);have C:=g x b;have l:m.ay[mid.toNat]'M=x:=by obtain⟨_,h⟩:=aY.1 k;grind
    simp only[aM];refine ao (λf=>?_) (λf=>?_)
    .simp only[aU]at f;rw[fG (x:=mid+1) M M];refine B _ ⟨?_,?_,?_,λh=>⟨?_,(d h).2⟩⟩ ?_<;>dsimp only
     .omega
     .omega
     .omega
     .rw[fG M M]at f;intro i o P;by_cases e:i=mid.toNat
      .subst e;rw[l];omega
      .have:=v i mid.toNat M M;grind
     .omega
    .simp only[cY]at f;refine B _ ⟨?_,?_,?_,λh=>⟨(d h).1,?_⟩⟩ ?_<;>dsimp only
     .omega
     .omega
     .omega
     .rw[fG M M]at f;intro i o P;by_cases e:i=mid.toNat
      .subst e;rw[l];omega
      .have:=v mid.toNat i M o;grind
     .omega
   .simp only[cY]at a;dsimp only;intro i o h';exact(d h).2 i o M
  .obtain ⟨q,u⟩:=x;obtain⟨p,Q,D⟩:=b;dsimp only at p Q D;obtain⟨q,rfl⟩:=lG p;by_cases R:-1073741824<=id/\id<=1073741824
   .obtain ⟨S,U⟩:=D R;have c:=at_end v (id:=id) (q:=q) M (λi hi h=>S i hi M) (λi hi h=>U i hi M);refine ao (λa=>?_) (λa=>ag ?_)
    .simp only[aU]at a;have X:q<m.ay.length:=M;refine aH p a λx b k=>?_;have C:=g x b;obtain rfl:m.ay[q]=x:=by simp_all
     rw[iF X]at c;simp only[aM];refine ag ?_;rw[fG M M];grind
    .rw[dif_neg (by simp only[cY]at a;omega)]at c;exact c
   .have E:Pt m id=-1:=CD λn a0 e=>by grind
    refine ao (λa=>?_) (λa=>ag E.symm);simp only[aU]at a;refine aH p a λx b k=>?_;have C:=g x b;simp only[aM];refine ag ?_;have:(IntKind.i64.wrap (x.iD-id)==0)=F:=by rw[ic];intro e;have:=O8 M M e;omega
    grind
 unfold Dn;refine aF G λy t=>ao (λh=>ag ?_) λh=>ag ?_
 grind
 .rw[h]at t;exact t
end
def Jp:(List.range n).any b=W↔∃i,i<n/\b i=W:=by grind
def rS:(List.range n).any b=F↔∀i,i<n->b i=F:=by grind
def wy{x:Dm}(a:ps[p]?=O x)(h:iy x.name=F∨4096<(x.value.length:Int)):mO ps p=W:=by
 obtain⟨hi,rfl⟩:=aY.1 a;unfold mO;grind
def GS{x y:Dm}(a:ps[p]?=O x)(h0:0<p)(b:ps[p-1]?=O y):mO ps p=((!iy x.name||decide ((x.value.length:Int)>4096))||!Op.bytesLess y.name x.name):=by obtain⟨hi,rfl⟩:=aY.1 a;obtain⟨c,rfl⟩:=aY.1 b;unfold mO;grind
def GU{x:Dm}(a:ps[0]?=O x):mO ps 0=(!iy x.name||decide ((x.value.length:Int)>4096)):=by obtain⟨hi,rfl⟩:=aY.1 a;unfold mO;grind
def rT{ps:Z Rf}{x:Rf}(a:ps[p]?=O x)(h:iy x.role=F∨x.target<1∨next<=x.target):qi next ps p=W:=by
 obtain⟨hi,rfl⟩:=aY.1 a;unfold qi;grind
def Jq{ps:Z Rf}{x y:Rf}(a:ps[p]?=O x)(h0:0<p)(b:ps[p-1]?=O y):qi next ps p=(((!iy x.role||decide (x.target<1))||decide (x.target≥next))||!Op.bytesLess y.role x.role):=by obtain⟨hi,rfl⟩:=aY.1 a;obtain⟨c,rfl⟩:=aY.1 b;unfold qi;grind
def Jr{ps:Z Rf}{x:Rf}(a:ps[0]?=O x):qi next ps 0=((!iy x.role||decide (x.target<1))||decide (x.target≥next)):=by obtain⟨hi,rfl⟩:=aY.1 a;unfold qi;grind
section
variable{N:Nat}(hN:1073741824<=N)
include hN
theorem zG(l:n<=1048576)
  (step:∀rec(i:Nat),(b i=F->i<n->T (rec ((i+1:Nat),())) P)->(i=n->(∀j,j<n->b j=F)->T (f rec ((i:Int),())) P)/\(i<n->T (f rec ((i:Int),())) P)):T (aZ f N (0,())) P:=by
 refine aP (λs=>∃i:Nat,s.1=i/\i<=n/\∀j,j<i->b j=F) (λs=>n-s.1.toNat) ⟨0,rfl,M,λj c=>M⟩ dY ?_;rintro rec ⟨p,u⟩ ⟨i,rfl,m,a⟩ d;obtain⟨g,h⟩:=step rec i λk hi=>d _ ⟨i+1,rfl,M,λj c=>by
  grind⟩ dY
 by_cases e:i=n
 .subst e;exact g rfl a
 .exact h M
theorem NG{n:Nd}(k:LK n){J:xW×xW->V β}
  (l:∀rec p,f rec (p,())=bif decide (p<(n.ab.length:Int))then(aR n.ab p).bind λz=>(Cj N z.role).bind λy=>bif !y then no else bif decide (z.target<1)then no else bif decide (m.next<=z.target)then no else bif decide (0<p)then(aR n.ab (IntKind.i64.wrap (p-1))).bind λz2=>bif !(Op.bytesLess z2.role z.role)then no else rec (IntKind.i64.wrap (p+1),())else rec (IntKind.i64.wrap (p+1),())else J ((),()))
  (r:ou m.next n.ab=F->T (J ((),())) P) (s:ou m.next n.ab=W->T no P):T (aZ f N (0,())) P:=by
 have t:=k.ab;refine zG hN t (b:=qi m.next n.ab) λrec i o=>⟨λhi u=>?_,λhi=>?_⟩
 .subst hi;rw[l];exact ao (λh=>by simp at h) λ_=>r (rS.2 u)
 .have d:qi m.next n.ab i=W->T no P:=λh=>s (Jp.2 ⟨i,hi,h⟩);rw[l];refine ao (λ_=>?_) λh=>by simp at h;omega
  refine aH M M λx v c=>aF (NF hN x.role (k.abQ x v)) λw A=>?_;simp at c;subst A;refine ao (λh=>d (rT c (.inl (by grind)))) λe=>ao (λh=>d (rT c (.inr (.inl (by grind))))) λg=>ao (λh=>d (rT c (.inr (.inr (by grind))))) λB=>?_;simp only[qn,cY]at e g B;have q:¬x.target≥m.next:=M;rw[rL M];refine ao (λa=>?_) (λa=>o ?_ hi)
  .simp only[aU]at a;rw[fG M M];refine aH M M λy _ C=>?_;have j:=Jq (next:=m.next) c M (by rw[(M:i-1=((i:Int)-1).toNat)];exact C);simp only[e,g,q,decide_false,kb,Hd,Hc]at j;refine ao (λa=>d (j.trans a)) λa=>o (j.trans a) hi
  .have:i=0:=by grind
   subst this;rw[Jr c];grind
theorem Js{n:Nd}(k:LK n){J:xW×xW->V β}
  (l:∀rec p,f rec (p,())=bif decide (p<(n.bl.length:Int))then(aR n.bl p).bind λz=>(Cj N z.name).bind λy=>bif !y then no else bif decide (4096<(z.value.length:Int))then no else bif decide (0<p)then(aR n.bl (IntKind.i64.wrap (p-1))).bind λz2=>bif !(Op.bytesLess z2.name z.name)then no else rec (IntKind.i64.wrap (p+1),())else rec (IntKind.i64.wrap (p+1),())else J ((),()))
  (q:lR n.bl=F->T (J ((),())) P) (r:lR n.bl=W->T no P):T (aZ f N (0,())) P:=by
 have s:=k.bl;refine zG hN s (b:=mO n.bl) λrec i m=>⟨λhi t=>?_,λhi=>?_⟩
 .subst hi;rw[l];exact ao (λh=>by simp at h) λ_=>q (rS.2 t)
 .have c:mO n.bl i=W->T no P:=λh=>r (Jp.2 ⟨i,hi,h⟩);rw[l];refine ao (λ_=>?_) λh=>by simp at h;omega
  refine aH M M λx u a=>aF (NF hN x.name (k.name x u)) λw v=>?_;simp at a;subst v;refine ao (λh=>c (wy a (.inl (by grind)))) λd=>ao (λh=>c (wy a (.inr (by grind)))) λA=>?_;simp only[qn,cY,iB]at d A;have o:¬(x.value.length:Int)>4096:=M;rw[rL M];refine ao (λe=>?_) (λe=>m ?_ hi)
  .simp only[aU]at e;rw[fG M M];refine aH M M λy _ B=>?_;have g:=GS a M (by rw[(M:i-1=((i:Int)-1).toNat)];exact B);simp only[d,o,decide_false,kb,Hd,Hc]at g;refine ao (λj=>c (g.trans j)) λj=>m (g.trans j) hi
  .have:i=0:=by grind
   subst this;rw[GU a];grind
theorem abU(m:hD)(A:xR m)(n:Nd)(e:LK n):T (Va N (m,n)) λr=>r=iT m n:=by
 have D:=e.bj;have E:=A.len;have s:lR n.bl=W->iT m n=F:=λh=>by simp[iT,h]
 have t:ou m.next n.ab=W->iT m n=F:=λh=>by simp[iT,h]
 have u:(n.cQ==0)=decide (n.cQ=0):=by grind
 have v:(n.role==[])=decide (n.role=[]):=by grind
 unfold Va;refine aF (NF hN n.aw e.aw) λy B=>?_;subst B;refine ao (λh=>ag ?_) λk=>ao (λh=>ag ?_) λi=>?_
 .simp only[il]at h;simp[iT,h]
 .have:(decide (n.cQ=0)==decide (n.role=[]))=F:=by grind
  simp[iT,this]
 .have k:iy n.aw=W:=by grind
  have i:(decide (n.cQ=0)==decide (n.role=[]))=W:=by grind
  have G:(decide (n.role=[])||iy n.role)=W->T (bif decide ((m.ay.length:Int)<(n.bj.length:Int))then O F else O W) λr=>r=W->n.bj.length<=m.ay.length:=λ_=>ao (λ_=>ag aE) λh=>ag λ_=>by grind
  have x:(decide (n.role=[])||iy n.role)=W->n.bj.length<=m.ay.length->lR n.bl=F->ou m.next n.ab=F->iT m n=W:=λa b c d=>by unfold iT;grind
  have z:¬n.bj.length<=m.ay.length->iT m n=F:=λh=>by simp[iT,h]
  apply ao<;>intro h
  .refine aF (NF hN n.role e.role) λw C=>?_;subst C;refine ao (λj=>ag ?_) λj=>ao (λf=>ag ?_) λf=>?_
   .have a:(decide (n.role=[])||iy n.role)=F:=by
     grind
    unfold iT;rw[a];simp
   grind
   .have o:n.bj.length<=m.ay.length:=by simp only[cY]at f;omega
    have a:(decide (n.role=[])||iy n.role)=W:=by grind
    refine az (λ_=>lR n.bl=F) (λJ g=>Js hN e (λ_ _=>rfl) (λh=>g _ h) (λh=>ag (s h).symm)) (λ_ p=>az (λ_=>ou m.next n.ab=F) (λJ g=>NG hN e (m:=m) (λ_ _=>rfl) (λh=>g _ h) (λh=>ag (t h).symm)) (λ_ q=>ag (x a o p q).symm))
  .have l:n.role=[]:=by grind
   refine ao (λf=>ag ?_) λf=>?_
   grind
   .have o:n.bj.length<=m.ay.length:=by simp only[cY]at f;omega
    have a:(decide (n.role=[])||iy n.role)=W:=by grind
    refine az (λ_=>lR n.bl=F) (λJ g=>Js hN e (λ_ _=>rfl) (λh=>g _ h) (λh=>ag (s h).symm)) (λ_ p=>az (λ_=>ou m.next n.ab=F) (λJ g=>NG hN e (m:=m) (λ_ _=>rfl) (λh=>g _ h) (λh=>ag (t h).symm)) (λ_ q=>ag (x a o p q).symm))
theorem abV(m:hD)(w:EN m):T (Vb N m) λr=>r=if jN m=W then 0 else 29:=by
 have A:=w.sorted;have K0:=w.ok.len;have d0:∀id,jc id->T (Dn N (m,id)) λr=>r=Pt m id:=λid C=>SQ hN m A w.qM M id C;have no:jN m=F->T (O (29:Int)) λr=>r=if jN m=W then 0 else 29:=λh=>ag (by rw[h];rfl)
 have f0:¬uv m->jN m=F:=λh=>by simp[jN,h]
 unfold Vb;refine bY (by simp[dG (b:=8) (n:=m.ay.length) (m:=281474976710656) M M]) (az (λs=>uv m/\s.1=xS m (m.ay.flatMap Nd.bj)) (λJ D=>?_) (λx c=>?_))
 .refine aP (λs=>0<=s.1.1/\s.1.1<=m.ay.length/\s.1.2=xS m ((m.ay.take s.1.1.toNat).flatMap Nd.bj)/\∀n∈m.ay.take s.1.1.toNat,∀k∈n.bj,yR m n k) (λs=>(m.ay.length-s.1.1).toNat) ⟨aE,aE,?_,aE⟩ dY ?_
  .simp only[Int.toNat_zero,qV,DB,xS];apply sC;grind
  rintro rec ⟨⟨p,g0⟩,u⟩ ⟨K,t0,t,L⟩ u0;dsimp only at K t0 t L;refine ao (λo=>?_) (λo=>D _ ?_)
  .simp only[aU]at o;refine az (λs=>s.1=xS m ((m.ay.take (p.toNat+1)).flatMap Nd.bj)/\∀n∈m.ay.take (p.toNat+1),∀k∈n.bj,yR m n k) (λv0 R=>?_) (λx c=>u0 _ ⟨?_,?_,?_,?_⟩ ?_)
   .refine aH K o λn v w0=>?_;have h0:=w.ok.node n v;have L0:=h0.bj;have i0:p.toNat<m.ay.length:=M;have j0:m.ay[p.toNat]=n:=by grind
    have x0:m.ay.take (p.toNat+1)=m.ay.take p.toNat++[n]:=by rw[<-j0];exact (ah i0).symm
    have l0:=EO i0;rw[j0]at l0;have N0:=O9 w.ok p.toNat;refine aP (λs=>0<=s.1.1/\s.1.1<=n.bj.length/\s.1.2=xS m ((m.ay.take p.toNat).flatMap Nd.bj++n.bj.take s.1.1.toNat)/\∀k∈n.bj.take s.1.1.toNat,yR m n k) (λs=>(n.bj.length-s.1.1).toNat) ⟨aE,aE,by grind,aE⟩ dY ?_;rintro y0 ⟨⟨q,A0⟩,P0⟩ ⟨m0,B0,E,P⟩ S;dsimp only at m0 B0 E P;refine ao (λG=>?_) (λG=>R _ ⟨?_,?_⟩)
    .simp only[aU]at G;refine aH m0 G λk B U=>aF (d0 k (h0.kid k B)) λy Q=>?_;subst Q;have n0:n.bj.take (q.toNat+1)=n.bj.take q.toNat++[k]:=by obtain⟨hi,rfl⟩:=aY.1 U;exact(ah hi).symm
     rcases Jk A k with⟨e,C0⟩|⟨i,hi,e,C⟩
     .rw[e];refine no (f0 λh=>?_);obtain⟨x,c,X,_⟩:=h n v k B;grind
     .rw[e];refine ao (λh=>by grind) λ_=>?_;have H:aR m.ay (i:Int)=O m.ay[i]:=mK hi;have I:aR A0 (i:Int)=O ((((m.ay.take p.toNat).flatMap Nd.bj++n.bj.take q.toNat).count m.ay[i].iD:Nat):Int):=by rw[nz,E,Jm _ hi]
      have Q0:((m.ay.take p.toNat).flatMap Nd.bj++n.bj.take q.toNat).count m.ay[i].iD<=4611686018427387904:=by refine fk List.count_le_length ?_;grind
      simp only[H,I,aM];refine ao (λh=>no (f0 λh'=>?_)) λD0=>S _ ⟨?_,?_,?_,?_⟩ ?_
      .obtain ⟨x,c,X,E0⟩:=h' n v k B;have:x=m.ay[i]:=nH A c (gw hi) (by grind);subst this;simp[E0]at h
      .dsimp only;rw[fG M M];omega
      .dsimp only;rw[fG M M];omega
      .dsimp only;rw[fG (x:=q+1) M M,(M:(q+1).toNat=q.toNat+1),n0,<-uE,dV,E,fG M M];have:=SL A ((m.ay.take p.toNat).flatMap Nd.bj++n.bj.take q.toNat) hi;grind
      .dsimp only;rw[fG M M,(M:(q+1).toNat=q.toNat+1),n0];intro k' U;rcases dR.1 U with h|h
       grind
       .simp at h;subst h;exact⟨m.ay[i],gw hi,C,by grind⟩
      .dsimp only;rw[fG M M];omega
    .simp only[cY,iB]at G;rw[dh (l:=n.bj) M]at E;grind
    .simp only[cY,iB]at G;rw[dh (l:=n.bj) M]at P;grind
   .dsimp only;rw[fG M M];omega
   .dsimp only;rw[fG M M];omega
   .dsimp only;rw[fG M M,(M:(p+1).toNat=p.toNat+1)];grind
   .dsimp only;rw[fG M M,(M:(p+1).toNat=p.toNat+1)];grind
   .dsimp only;rw[fG M M];omega
  .simp only[cY,iB]at o;rw[dh M]at t L;exact⟨L,t⟩
 .obtain ⟨g0,u⟩:=x;obtain⟨B,o0⟩:=c;dsimp only at o0;have p0:∀i(hi:i<m.ay.length),jM m m.ay[i]=F->jN m=F:=λi hi h=>by
   have:m.ay.all (jM m)=F:=by
    grind
   simp[jN,this]
  refine az (λ_=>m.ay.all (jM m)=W) (λJ D=>?_) (λ_ q0=>?_)
  .refine zG hN (n:=m.ay.length) M (b:=λi=>!((m.ay[i]?).map (jM m)).getD W) λrec i a0=>⟨λhi b0=>?_,λhi=>?_⟩
   .subst hi;refine ao (λh=>by simp at h) λ_=>D _ ?_;rw[cS];intro n v;obtain⟨j,d,rfl⟩:=gX v;have:=b0 j d;simpa[d]using this
   .have H:aR m.ay (i:Int)=O m.ay[i]:=mK hi;have I:aR g0 (i:Int)=O (((m.ay.flatMap Nd.bj).count m.ay[i].iD:Nat):Int):=by rw[nz,o0,Jm _ hi]
    refine ao (λ_=>?_) λh=>by simp at h;omega
    simp only[H,I,aM];rw[rL M];have r0:jM m m.ay[i]=W->T (rec (((i+1:Nat):Int),())) λr=>r=if jN m=W then 0 else 29:=λh=>a0 (by grind) hi
    refine ao (λa=>ao (λh=>no (p0 i hi ?_)) λh=>ao (λh'=>?_) λ_=>r0 ?_) λa=>ao (λ_=>ao (λh=>no (p0 i hi ?_)) λh=>r0 ?_) λh'=>?_
    .have a:m.ay[i].cQ=0:=by simpa using a
     have h:(m.ay.flatMap Nd.bj).count m.ay[i].iD≠0:=by grind
     unfold jM;rw[aj a];exact kd h
    grind
    .have a:m.ay[i].cQ=0:=by simpa using a
     have h:(m.ay.flatMap Nd.bj).count m.ay[i].iD=0:=by grind
     unfold jM;rw[aj a];exact jg h
    .have a:¬m.ay[i].cQ=0:=by simpa using a
     have h:(m.ay.flatMap Nd.bj).count m.ay[i].iD≠1:=by grind
     unfold jM;rw[ai a];exact kd h
    .have a:¬m.ay[i].cQ=0:=by simpa using a
     have h:(m.ay.flatMap Nd.bj).count m.ay[i].iD=1:=by grind
     unfold jM;rw[ai a];exact jg h
    grind
  .have s0:jN m=m.ay.all (hB m 64):=by simp[jN,B,q0]
   refine az (λ_=>m.ay.all (hB m 64)=W) (λJ D=>?_) (λ_ h=>ag (by grind));refine zG hN (n:=m.ay.length) M (b:=λi=>!((m.ay[i]?).map (hB m 64)).getD W) λrec i a0=>⟨λhi b0=>?_,λhi=>?_⟩
   .subst hi;refine ao (λh=>by simp at h) λ_=>D _ ?_;rw[cS];intro n v;obtain⟨j,d,rfl⟩:=gX v;have:=b0 j d;simpa[d]using this
   .have H:aR m.ay (i:Int)=O m.ay[i]:=mK hi;refine ao (λ_=>?_) λh=>by simp at h;omega
    refine az (λ_=>hB m 64 m.ay[i]=W) (λv0 R=>?_) (λ_ h=>?_)
    .simp only[H,aM];refine az (λ_=>hB m 64 m.ay[i]=F) (λR0 G0=>?_) (λ_ h=>no ?_)
     .refine aP (λs=>∃f:Nat,f<=64/\s.1.1=65-(f:Int)/\∃x∈m.ay,x.cQ=s.1.2.2.2.1/\hB m 64 m.ay[i]=hB m f x) (λs=>(65-s.1.1).toNat) ⟨64,M,aE,_,gw hi,rfl,rfl⟩ dY ?_;rintro y0 ⟨⟨p,S0,T0,U0,X0,b1,c1,d1⟩,u⟩ ⟨f,f1,K,x,c,t,c0⟩ S;dsimp only at K t;subst t;refine ao (λo=>?_) (λo=>G0 _ ?_)
      .simp only[aU]at o;obtain⟨f,rfl⟩:∃g,f=g+1:=⟨f-1,M⟩
       refine ao (λh=>R _ ?_) λh=>?_
       .have h:x.cQ=0:=by grind
        rw[c0,hB,aj h]
       .have h:¬x.cQ=0:=by grind
        obtain⟨y,Q,_⟩:=wx A B q0 x c h;obtain⟨H0,I0⟩:=nI Q;obtain⟨j,d,rfl⟩:=gX H0;refine aF (d0 x.cQ (w.ok.node x c).cQ) λz J0=>?_;have:z=(j:Int):=by rw[J0,<-I0];exact wu A d
        subst this;have I:aR m.ay (j:Int)=O m.ay[j]:=mK d;simp only[I,aM];refine S _ ⟨f,M,?_,m.ay[j],gw d,rfl,?_⟩ ?_
        .dsimp only;rw[fG M M];omega
        .rw[c0,hB,ai h,Q]
        .dsimp only;rw[fG M M];omega
      .simp only[cY]at o;have:f=0:=M;subst this;rw[c0];rfl
     grind
    .rw[rL M];exact a0 (by rw[bS hi];simp[h]) hi
end
def GV(m:hD)(i:Nat)(hi:i<m.ay.length):Prop:=uw m i<m.ay[i].iD/\m.ay[i].iD<m.next/\iT m m.ay[i]=W
def ux(hi:i<m.ay.length)(h:0<i):uw m i=(m.ay[i-1]'M).iD:=by unfold uw;grind
def rU(m:hD):uw m 0=0:=by unfold uw;grind
def xU(b:xR m)(hi:i<m.ay.length)(h:¬GV m i hi):fJ m=F:=by
 cases e:fJ m with
 |false=>rfl|true=>
  exfalso;have c:=rR b e;have a:=rQ c;unfold fJ at e;rw[aI,aI]at e;obtain⟨_,d,f⟩:=e;obtain⟨g,j⟩:=LM d;rw[f,aI]at a;have k:=cS.1 a.1 _ (gw hi);have l:=j _ (gw hi);refine h ⟨?_,M,k⟩;by_cases h0:0<i
  .rw[ux hi h0];exact g (i-1) i M hi
  .have:i=0:=M;subst this;rw[rU];omega
def LN(h:xR m)(b:wv m=W)(a:∀i(hi:i<m.ay.length),GV m i hi):EN m/\fJ m=jN m:=by
 have j:∀i(hi:i<m.ay.length),1<=m.ay[i].iD:=by
  intro i;induction i with
  |zero=>intro hi;have:=(a 0 hi).1;rw[rU]at this;omega|succ i k=>
   intro hi;have d:=(a (i+1) hi).1;rw[ux hi M]at d;grind
 have e:SK m=W:=by
  unfold SK;rw[il,uD];intro i hi;have hi:=px.1 hi;obtain⟨l,s,_⟩:=a i hi;have:=j i hi;unfold SJ;simp only[hi,iF,kS,aU,not_or];refine⟨⟨M,M⟩,?_⟩;by_cases h0:0<i
  .rw[ux hi h0]at l;grind
  .simp[h0]
 obtain⟨o,p⟩:=LM e;have t:m.next<=1048577:=by unfold wv at b;grind
 have f:EN m:=⟨h,o,λn c=>by grind⟩
 have g:=rQ f;have q:m.ay.all (iT m)=W:=cS.2 λn c=>by obtain⟨i,hi,rfl⟩:=gX c;exact(a i hi).2.2
 rw[q,oO]at g;exact⟨f,by unfold fJ;rw[b,e,<-g];rfl⟩
section
variable{N:Nat}(hN:1073741824<=N)
include hN
theorem YW(m:hD)(a:xR m):T (Zj N m) λr=>r=if fJ m=W then 0 else 29:=by
 have E:=a.len;have no:fJ m=F->T (O (29:Int)) λr=>r=if fJ m=W then 0 else 29:=λh=>ag (by rw[h];rfl)
 have g:wv m=F->fJ m=F:=λh=>by simp[fJ,h]
 unfold Zj;refine ao (λh=>no ?_) λo=>ao (λh=>no ?_) λq=>ao (λh=>no ?_) λt=>?_
 .exact g (by simp only[wv,h];rfl)
 .exact g (by simp only[wv];rw[show decide (m.next>1048577)=W from h];simp)
 grind
 .have v:wv m=W:=by simp only[wv,o];rw[show decide (m.next>1048577)=F from q,show decide ((m.ay.length:Int)>4096)=F from t];rfl
  refine az (λ_=>∀i(hi:i<m.ay.length),GV m i hi) (λJ w=>?_) (λ_ b=>?_)
  .refine aP (λs=>∃i:Nat,s.1.2=i/\i<=m.ay.length/\s.1.1=uw m i/\∀j(c:j<m.ay.length),j<i->GV m j c) (λs=>m.ay.length-s.1.2.toNat) ⟨0,rfl,M,(rU m).symm,λj c h=>M⟩ dY ?_;rintro rec ⟨⟨G,p⟩,u⟩ ⟨i,k,H,l,n⟩ x;dsimp only at k l;subst k l;refine ao (λd=>?_) (λd=>w _ λj c=>n j c ?_)
   .simp only[aU]at d;have hi:i<m.ay.length:=M;have z:aR m.ay (i:Int)=O m.ay[i]:=mK hi;simp only[z,aM];refine ao (λh=>no (xU a hi λb=>?_)) λA=>ao (λh=>no (xU a hi λb=>?_)) λB=>aF (abU hN m a _ (a.node _ (gw hi))) λy f=>?_
    .simp only[aU]at h;have:=b.1;omega
    .simp only[aU]at h;have:=b.2.1;omega
    .subst f;simp only[cY]at A B;refine ao (λh=>no (xU a hi λb=>by rw[b.2.2]at h;grind)) λC=>x _ ⟨i+1,?_,M,?_,λj c I=>?_⟩ ?_
     .dsimp only;rw[rL M]
     .dsimp only;unfold uw;grind
     .by_cases e:j=i
      .subst e;exact⟨M,M,by grind⟩
      .exact n j c M
     .dsimp only;rw[rL M];omega
   grind
  .obtain ⟨D,e⟩:=LN a v b;rw[e];exact aF (abV hN m D) λy f=>ag f
theorem abW(l:Z Dm)(a:l.length<=1048576):T (YO N l) λr=>r=l:=pn M M
theorem abX(l:Z Rf)(a:l.length<=1048576):T (YP N l) λr=>r=l:=pn M M
theorem abY(n:Nd)(a:LK n):T (VI N n) λr=>r=n:=by have c:=a.bl;have d:=a.ab;have g:=a.bj;unfold VI;refine aF (abW hN n.bl c) λy e=>aF (abX hN n.ab d) λz f=>bY (by simp[dG (b:=8) (n:=n.bj.length) (m:=281474976710656) M M]) (ag ?_);simp_all
theorem agV(m:hD)(a:xR m)(id:Int)(g:jc id):T (F47 N (m,id)) λr=>r=Jo m id:=by
 have p:=a.len;unfold F47;refine aF (YW hN m a) λy b=>?_;cases e:fJ m with
 |false=>rw[e]at b;subst b;exact ag (by simp only[Jo,e];rfl)|true=>
  rw[e]at b;subst b;have f:=rR a e;have c:=f.sorted;refine aF (SQ hN m c f.qM M id g) λz j=>?_;subst j;rcases Jk c id with⟨d,k⟩|⟨i,hi,d,l⟩
  .rw[d];refine ag ?_;simp only[Jo,e,ca];rw[Jl k];rfl
  .rw[d];have n:aR m.ay (i:Int)=O m.ay[i]:=mK hi;refine ao (λ_=>?_) λh=>by simp at h
   simp only[n,aM];refine aF (abY hN _ (a.node _ (gw hi))) λw o=>ag ?_;subst o;simp only[Jo,e,ca];rw[<-l,lS c hi]
end
end Go.Proofs.Mo
