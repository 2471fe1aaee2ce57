import Derived.Test.YticakdhfjeljkaaGreatDoorZ20
set_option linter.all false
set_option maxRecDepth 20000
open Option renaming some->O,none->Y
open Bool renaming true->W,false->F
open Go.Proofs.Tryz
noncomputable section
namespace Go.Proofs.Mo
open Go Go.Ev Go.X
variable{m:gB}{ls:Z dc}{l k l' next l0:Int}{β α γ δ ε:Type}{i n j p B':Nat}{f:bP->Hp->V ((Int×aa)×Hp)}{env:Z jT}{c:dQ}{b:Nat->aa}{ps:Z Ku}{a:Va}{s:bP}{xs:Z bP}{o:V Nat}{e:hJ}{sl:Nat->V (Nat×Nat)}{h':Hp}{r:dP}{A:Z Int}{P:β->Prop}{no:V β}{ρ:α->γ}{σ:δ->ε}
section
variable{N:Nat}(hN:1073741824<=N)
include hN
theorem EI(a b c d e:Int):T (Rl N (a,b,c,d,e)) λr=>r.ka=e:=⟨_,rfl,rfl⟩
theorem YL(a:Int)(s:bP)(b:s.length<=1048576):T (yF N (a,s)) λ_=>True:=by
 unfold yF;refine cI (λJ c=>?_) ?_;refine cN (↑(List.length s)) λrec _ _ d e f=>?_;dsimp only;apply a6<;>intro g
 grind [aL,bt,ad,b7]
 grind
 grind [ad]
theorem u7(s:bP)(f:s.length<=1048576):T (sq N s) λ_=>True:=by
 unfold sq;apply a6<;>intro a;exact dU;apply a6<;>intro a;exact dU;refine aL a8 a8 λx b c=>ay (YL a8 _ _ a8) λy d e=>?_;apply cj<;>intro a;exact dU;refine cI (λJ g=>?_) ?_;refine cN (↑(List.length s)) λrec _ _ h i j=>?_;dsimp only;apply a6<;>intro a;refine aL a8 a8 λx b c=>ay (YL a8 _ _ a8) λy d e=>?_;apply cj<;>intro a;exact dU
 grind [b7]
 grind
 grind [ad]
theorem zU(a b c d:Int):T (Dv N (a,b,c,d)) λ_=>True:=by grind [Dv,bt,ad]
theorem adq(l:dc)(i:Int)(d:oG l)(h0:0<=i)(e:i<l.tv.length):T (W9 N (l,i)) λ_=>True:=by
 obtain⟨e,h,c,j,k,m,n,o,p,q,r,s,t,u,v,w⟩:=id d;unfold W9;apply eZ<;>intro a;exact dU;refine aL a8 a8 λx b f=>have g:=c x b;ay (u7 a8 _ a8) λy z A=>?_;apply cj<;>intro a;exact dU;refine aL a8 a8 λx b f=>?_;have g:=c x b;apply bt<;>intro a;exact dU;refine cI (λJ B=>?_) ?_;refine cN i λrec _ _ C D E=>?_;dsimp only;apply a6<;>intro a
 grind [aL,bt,ad,b7]
 grind
 grind [ad]
theorem YM(c:dQ)(i:Int)(b:rp c)(h0:0<=i)(f:i<c.bd.length):T (Ud N (c,i)) λ_=>True:=by
 obtain⟨g,h,j,d,k,l,m,n,o,p⟩:=id b;unfold Ud;apply eZ<;>intro a;exact dU;refine aL a8 a8 λx e q=>have r:=d x e;ay (u7 a8 _ a8) λy s t=>?_;apply cj<;>intro a;exact dU;refine cI (λJ u=>?_) ?_;refine cN i λrec _ _ v w z=>?_;dsimp only;apply a6<;>intro a
 grind [aL,bt,ad,b7]
 grind
 grind [aL,a6,ad]
theorem YN(c:dQ)(i:Int)(d:rp c)(h0:0<=i)(k:i<c.aD.length):T (Ue N (c,i)) λ_=>True:=by
 obtain⟨l,m,n,o,p,e,f,q,r,s⟩:=id d;unfold Ue;refine aL a8 a8 λx b t=>?_;have g:=e x b;have g:=f x b;apply eZ<;>intro a;exact dU;refine ay (u7 a8 _ a8) λy h j=>?_;apply cj<;>intro a;exact dU;refine ay (u7 a8 _ a8) λy h j=>?_;apply cj<;>intro a;exact dU;refine cI (λJ u=>?_) ?_;refine cN i λrec _ _ v w z=>?_;dsimp only;apply a6<;>intro a
 grind [aL,bt,ad,b7]
 grind
 grind [bE,ad]
theorem YO(c:dQ)(i:Int)(d:rp c)(h0:0<=i)(k:i<c.bK.length):T (Uf N (c,i)) λ_=>True:=by
 obtain⟨l,m,n,o,p,q,r,s,e,f⟩:=id d;unfold Uf;refine aL a8 a8 λx b t=>?_;have g:=e x b;have g:=f x b;apply eZ<;>intro a;exact dU;refine ay (u7 a8 _ a8) λy h j=>?_;apply cj<;>intro a;exact dU;refine ay (u7 a8 _ a8) λy h j=>?_;apply cj<;>intro a;exact dU;refine cI (λJ u=>?_) ?_;refine cN i λrec _ _ v w z=>?_;dsimp only;apply a6<;>intro a
 grind [aL,bt,ad,b7]
 grind
 grind [ad]
theorem adr(l:dc)(i:Int)(j:oG l)(h0:0<=i)(k:i<l.bC.length):T (Xa N (l,i)) λ_=>True:=by
 have d:=j.au;have s:=λc a=>(d c a).name;have t:=λc a=>(d c a).dI;have m:=λc a=>(d c a).bd;have n:=λc a=>(d c a).aD;have o:=λc a=>(d c a).bK;have u:=j.bC;unfold Xa;refine aL h0 k λz p v=>?_;have a:=d z p;have m:=a.bd;have n:=a.aD;have o:=a.bK;apply eZ<;>intro b;exact dU;refine ay (u7 a8 _ ?_) λy q r=>?_
 grind
 apply cj<;>intro b;exact dU;refine cI (λJ e=>?_) ?_;refine cN i λrec _ _ f g h=>?_;dsimp only;apply a6<;>intro b
 grind [aL,bt,ad,b7]
 grind
 rintro⟨_,_⟩;apply bE<;>intro b;refine ay (u7 a8 _ ?_) λy q r=>?_
 grind
 apply cj<;>intro b;exact dU;apply bt<;>intro b;exact dU;refine cI (λJ e=>?_) ?_;refine cN (↑z.bd.length) λrec _ _ f g h=>?_;dsimp only;apply a6<;>intro b
 grind [ay,YM,bE,ad,b7]
 grind
 rintro⟨_,_⟩;refine cI (λJ e=>?_) ?_;refine cN (↑z.aD.length) λrec _ _ f g h=>?_;dsimp only;apply a6<;>intro b
 grind [ay,YN,bE,ad,b7]
 grind
 rintro⟨_,_⟩;refine cI (λJ e=>?_) ?_;refine cN (↑z.bK.length) λrec _ _ f g h=>?_;dsimp only;apply a6<;>intro b
 grind [ay,YO,bE,ad,b7]
 grind
 grind [ad]
 apply bt<;>intro b;exact dU;refine cI (λJ e=>?_) ?_;refine cN (↑z.bd.length) λrec _ _ f g h=>?_;dsimp only;apply a6<;>intro b
 grind [ay,YM,bE,ad,b7]
 grind
 rintro⟨_,_⟩;refine cI (λJ e=>?_) ?_;refine cN (↑z.aD.length) λrec _ _ f g h=>?_;dsimp only;apply a6<;>intro b
 grind [ay,YN,bE,ad,b7]
 grind
 rintro⟨_,_⟩;refine cI (λJ e=>?_) ?_;refine cN (↑z.bK.length) λrec _ _ f g h=>?_;dsimp only;apply a6<;>intro b
 grind [ay,YO,bE,ad,b7]
 grind
 grind [ad]
theorem ads(l:dc)(i:Int)(f:oG l)(h0:0<=i)(g:i<l.eu.length):T (Xb N (l,i)) λ_=>True:=by
 obtain⟨g,m,n,o,p,q,d,e,r,s,t,u,v,w,z,A⟩:=id f;unfold Xb;refine aL a8 a8 λx a h=>?_;have c:=d x a;have c:=e x a;apply eZ<;>intro b;exact dU;refine ay (u7 a8 _ a8) λy j k=>?_;apply cj<;>intro b;exact dU;refine ay (u7 a8 _ a8) λy j k=>?_;apply cj<;>intro b;exact dU;refine cI (λJ B=>?_) ?_;refine cN i λrec _ _ C D E=>?_;dsimp only;apply a6<;>intro b;refine aL a8 M λx a h=>?_;have c:=d x a;have c:=e x a;apply bt<;>intro b;apply bt<;>intro b
 grind [bt,ad,b7]
 grind [b7]
 grind [b7]
 grind
 grind [a6,ad]
theorem adt(l:Z l7)(w:l.length<=64)(A:∀s∈l,u6 s):T (Xc N l) λ_=>True:=by
 unfold Xc;refine aS (λ_=>True) (λJ g=>?_) (λx _=>ad trivial);refine bl (λs=>0<=s.1.2/\s.1.2<=l.length/\(s.1.1.length:Int)<=1+s.1.2*64) (λs=>(l.length-s.1.2).toNat) ⟨aH,aH,aH⟩ (by grind) ?_;rintro rec ⟨⟨st,B⟩,u⟩ ⟨b,h,i⟩ j;dsimp only at b h i;have C:(st.length:Int)<=4200:=M;refine aw (λa=>?_) (λ_=>g _ trivial);simp only[aV]at a;rw[b7 M M];refine aL M M λz D _=>bO dx (aw (λ_=>ad trivial) λe=>aw (λ_=>ad trivial) λc=>?_);simp only[oa,gE,cP,EQ]at e c;subst e;refine aL b c λx E d=>aw (λ_=>ad trivial) λm=>aL b c λn G o=>?_;simp only[cP,kC]at m;obtain rfl:x=n:=cJ (d.symm.trans o);rw[b7 (x:=(x.args.length:Int)-1) M M];refine bl (λs=>-1<=s.1.2/\s.1.2<x.args.length/\(s.1.1.length:Int)<=st.length-1+(x.args.length-1-s.1.2)) (λs=>(s.1.2+1).toNat) ⟨by grind,by grind,by dsimp only;rw[tI];omega⟩ iI ?_;rintro H ⟨⟨I,k⟩,K⟩ ⟨p,f,q⟩ r;dsimp only at p f q;refine aw (λa=>?_) (λa=>?_)
 .simp only[aV]at a;refine aL b c λt L v=>?_;obtain rfl:x=t:=cJ (d.symm.trans v);refine aL a f λy _ _=>bO (cq dx dx) (r _ ⟨?_,?_,?_⟩ ?_)<;>dsimp only<;>rw[b7 M M]<;>(try simp)<;>omega
 .simp only[cP,EQ]at a;refine j _ ⟨?_,?_,?_⟩ ?_<;>dsimp only<;>rw[b7 M M]<;>omega
theorem adu(l:Z l7)(j:l.length<=1048576)(b:∀s∈l,u6 s):T (Ug N l) λ_=>True:=by
 have f:=λs c=>(b s c).name;have g:=λs c=>(b s c).args;unfold Ug;apply a6<;>intro a;exact dU;refine cI (λJ k=>?_) ?_;refine cN (↑l.length) λrec _ _ m n o=>?_;dsimp only;apply a6<;>intro a;refine aL a8 a8 λx d p=>?_;have e:=b x d;have e:=f x d;have e:=g x d;apply a6<;>intro a;exact dU;apply a6<;>intro a;exact dU;apply bt<;>intro a;apply bE<;>intro a;exact dU;apply bE<;>intro a
 grind
 apply a6<;>intro a;exact dU
 grind [bE,ad,a6,b7]
 apply bE<;>intro a;refine ay (u7 a8 _ a8) λy h i=>?_;apply cj<;>intro a;exact dU;apply a6<;>intro a;exact dU;apply bE<;>intro a;apply bE<;>intro a;exact dU
 grind [bE,a6,ad,b7]
 grind [bE,a6,ad,b7]
 grind
 grind
 rintro⟨_,_⟩;refine ay (adt a8 _ M a8) λy h i=>?_;apply cj<;>intro a;exact dU;exact dU
theorem adv(q:dA)(i:Int)(a:QL q):T (Xd N (q,i)) λ_=>True:=by
 obtain⟨c,d,e,f,g⟩:=a;unfold Xd;apply eZ<;>intro b;exact dU;refine ay (u7 a8 _ a8) λy h j=>?_;apply cj<;>intro b;exact dU
 grind [ay,adu,bE,ad]
theorem adw(l:dc)(i:Int)(d:oG l)(h0:0<=i)(e:i<l.eL.length):T (Xe N (l,i)) λ_=>True:=by
 obtain⟨e,o,p,q,r,s,t,u,v,w,z,f,g,A,B,C⟩:=id d;unfold Xe;refine aL a8 a8 λx b c=>?_;have h:=f x b;have h:=g x b;apply eZ<;>intro a;exact dU;refine ay (u7 a8 _ a8) λy D E=>?_;apply cj<;>intro a;exact dU;refine cI (λJ j=>?_) ?_;refine cN i λrec _ _ k m n=>?_;dsimp only;apply a6<;>intro a
 grind [aL,bt,ad,b7]
 grind
 rintro⟨_,_⟩;apply a6<;>intro a;exact dU;refine cI (λJ j=>?_) ?_;refine cN (↑x.cells.length) λrec _ _ k m n=>?_;dsimp only;apply a6<;>intro a;refine aL a8 a8 λx b c=>?_;apply a6<;>intro a;exact dU;refine aL a8 a8 λx b c=>?_;apply a6<;>intro a;exact dU;refine aL a8 a8 λx b c=>aL a8 a8 λx b c=>?_;apply a6<;>intro a;exact dU
 grind [b7]
 grind
 grind [ad]
theorem adx(l:dc)(i:Int)(d:oG l)(h0:0<=i)(e:i<l.c7.length):T (Xf N (l,i)) λ_=>True:=by
 obtain⟨e,o,p,q,r,s,t,u,v,w,z,A,B,C,f,g⟩:=id d;unfold Xf;refine aL a8 a8 λx b c=>?_;have h:=f x b;have h:=g x b;apply eZ<;>intro a;exact dU;refine ay (u7 a8 _ a8) λy D E=>?_;apply cj<;>intro a;exact dU;refine cI (λJ j=>?_) ?_;refine cN i λrec _ _ k m n=>?_;dsimp only;apply a6<;>intro a
 grind [aL,bt,ad,b7]
 grind
 rintro⟨_,_⟩;apply a6<;>intro a;exact dU;refine cI (λJ j=>?_) ?_;refine cN (↑x.eU.length) λrec _ _ k m n=>?_;dsimp only;apply a6<;>intro a;refine aL a8 a8 λx b c=>?_;apply a6<;>intro a;exact dU;refine aL a8 a8 λx b c=>?_;apply a6<;>intro a;exact dU;refine aL a8 a8 λx b c=>aL a8 a8 λx b c=>?_;apply a6<;>intro a;exact dU
 grind [b7]
 grind
 grind [ad]
theorem ah4(l:dc)(f:oG l):T (F35 N l) λ_=>True:=by
 obtain⟨g,h,i,j,k,m,n,o,p,q,r,s,t,u,v,w⟩:=id f;unfold F35;refine ay (u7 a8 _ a8) λy x z=>?_;apply cj<;>intro a
 grind [ay,zU,ad]
 apply a6<;>intro a
 grind [ay,zU,ad]
 refine cI (λJ b=>?_) ?_;refine cN (↑l.tv.length) λrec _ _ c d e=>?_;dsimp only;apply a6<;>intro a
 grind [ay,adq,bE,zU,ad,b7]
 grind
 rintro⟨_,_⟩;refine cI (λJ b=>?_) ?_;refine cN (↑l.bC.length) λrec _ _ c d e=>?_;dsimp only;apply a6<;>intro a
 grind [ay,adr,bE,zU,ad,b7]
 grind
 rintro⟨_,_⟩;refine cI (λJ b=>?_) ?_;refine cN (↑l.eu.length) λrec _ _ c d e=>?_;dsimp only;apply a6<;>intro a
 grind [ay,ads,bE,zU,ad,b7]
 grind
 rintro⟨_,_⟩;refine cI (λJ b=>?_) ?_;refine cN (↑l.equations.length) λrec _ _ c d e=>?_;dsimp only;apply a6<;>intro a
 grind [aL,ay,adv,bE,zU,ad,b7]
 grind
 rintro⟨_,_⟩;refine cI (λJ b=>?_) ?_;refine cN (↑l.eL.length) λrec _ _ c d e=>?_;dsimp only;apply a6<;>intro a
 grind [ay,adw,bE,zU,ad,b7]
 grind
 rintro⟨_,_⟩;refine cI (λJ b=>?_) ?_;refine cN (↑l.c7.length) λrec _ _ c d e=>?_;dsimp only;apply a6<;>intro a
 grind [ay,adx,bE,zU,ad,b7]
 grind
 grind [ad]
end
def cs(ls:Z dc):Z dQ:=ls.flatMap (·.bC)
def jP(ls:Z dc)(c:bP):V dQ:=(cs ls).find? λx=>x.name==c
def nm(ls:Z dc):Nat->V dQ->Z dQ
 |0,_=>[]|_,Y=>[]
 |n+1,O x=>x::nm ls n (jP ls x.dI)
def gk(ls:Z dc)(c:bP):Z dQ:=nm ls 129 (jP ls c)
def xd(l:Z dQ)(c:dQ):dQ:=⟨c.name,c.dI,c.mL,l.reverse.flatMap (·.bd),l.reverse.flatMap (·.aD),l.reverse.flatMap (·.bK)⟩
structure iY(ls:List dc):Prop where
 len:ls.length<=1048576
 all:∀l∈ls,oG l
def Ux{l:dc}(a:l∈ls)(b:c∈l.bC):c∈cs ls:=NN.2 ⟨l,a,b⟩
def iY.cpt (h:iY ls) (a:c∈cs ls):rp c:=by obtain⟨l,b,a⟩:=NN.1 a;exact(h.all l b).au c a
theorem s6{c:bP}{x:dQ}(h:jP ls c=O x):x∈cs ls/\x.name=c:=⟨Gx h,by have:=List.find?_some h;grind⟩
theorem q4{ls:Z dc}:∀(n:Nat)(o:V dQ),(∀x,o=O x->x∈cs ls)->∀x∈nm ls n o,x∈cs ls
 |0,_,_,x,a=>by cases a
 |n+1,Y,_,x,a=>by cases a
 |n+1,O y,h,x,a=>by
  rcases fb.1 a with rfl|a
  grind
  .exact q4 n _ (λz b=>(s6 b).1) x a
theorem DB{ls:Z dc}:∀(n:Nat)(o:V dQ),(nm ls n o).length<=n
 |0,_=>bq _|n+1,Y=>eM _
 |n+1,O y=>by
  have:=DB (ls:=ls) n (jP ls y.dI)
  grind [nm,ie]
theorem DC(ls:Z dc)(c:bP):(gk ls c).length<=129:=DB _ _
theorem No{x:dQ}(h:x∈cs ls):∃y,jP ls x.name=O y:=by
 cases e:jP ls x.name with
 |some y=>grind|none=>have:=NG.1 e x h;simp at this
def sx{c:bP}{y:dQ}(h:jP ls c=O y):gk ls c=y::nm ls 128 (jP ls y.dI):=by unfold gk;rw[h];rfl
def mM(ls:Z dc)(c:bP)(y:dQ):dQ:=xd (gk ls c) y
def ke{α β:Type}{k:Nat}{f:α->Z β}:∀{l:Z α},(∀x∈l,(f x).length<=k)->(l.flatMap f).length<=l.length*k
 |[],_=>aH|x::l,h=>by have b:=h x aH;have c:=ke (l:=l) λy a=>h y (by simp[a]);simp only[tF,jf,ie,kS,uk];omega
theorem QM{l:Z α}{q:α->aa}{x:α}(h:l[i]?=O x):(l.drop i).find? q=if q x=W then O x else(l.drop (i+1)).find? q:=by
 obtain⟨hi,rfl⟩:=cr.1 h
 grind [oS]
section
variable{N:Nat}(hN:1073741824<=N)
include hN
def IT:dQ:=⟨[],[],F,[],[],[]⟩
theorem ady(l:dc)(c:bP)(j:l.bC.length<=1048576):T (Xg N (l,c)) λr=>r=match l.bC.find? λx=>x.name==c with
  |some x=>(x,W)|none=>(IT,F):=by
 unfold Xg;refine aS (λ_=>l.bC.find? (λx=>x.name==c)=Y) (λJ k=>?_) (λx f=>ad (by rw[f];rfl));refine bl (λs=>0<=s.1/\s.1<=l.bC.length/\l.bC.find? (λx=>x.name==c)=(l.bC.drop s.1.toNat).find? λx=>x.name==c) (λs=>(l.bC.length-s.1).toNat) ⟨aH,aH,aH⟩ (by grind) ?_;rintro rec ⟨p,u⟩ ⟨d,h,a⟩ m;dsimp only at d h a;refine aw (λb=>?_) (λb=>?_)
 .simp only[aV]at b;refine aL d b λx f g=>?_;rw[QM g]at a;refine aw (λe=>?_) (λe=>?_)
  .refine aL d b λy n i=>?_;obtain rfl:x=y:=cJ (g.symm.trans i);rw[aq e]at a;rw[a];exact ad rfl
  .rw[ao (by simp[e])]at a
   grind [b7]
 grind [cP,kC,EV]
theorem tY(ls:Z dc)(c:bP)(g:iY ls):T (yG N (ls,c)) λr=>(match jP ls c with
  |some x=>r.1=x/\r.2.2=W|none=>r.1=IT/\r.2.2=F):=by
 have n:=g.len;unfold yG jP;refine aS (λ_=>(cs ls).find? (λx=>x.name==c)=Y) (λJ j=>?_) (λx f=>ad (by rw[f];exact ⟨rfl,rfl⟩));refine bl (λs=>0<=s.1/\s.1<=ls.length/\(cs ls).find? (λx=>x.name==c)=(cs (ls.drop s.1.toNat)).find? λx=>x.name==c) (λs=>(ls.length-s.1).toNat) ⟨aH,aH,aH⟩ (by grind) ?_;rintro rec ⟨p,u⟩ ⟨h,k,a⟩ l;dsimp only at h k a;refine aw (λb=>?_) (λb=>?_)
 .simp only[aV]at b;refine aL h b λx f m=>?_;have e:cs (ls.drop p.toNat)=x.bC++cs (ls.drop (p.toNat+1)):=by obtain⟨hi,rfl⟩:=cr.1 m;rw[oS hi];rfl
  rw[e,List.find?_append]at a;refine aB (ady hN x c (g.all x f).bC) λr d=>?_;cases i:x.bC.find? λx=>x.name==c with
  |some y=>rw[i]at d a;subst d;rw[a];exact ad ⟨rfl,rfl⟩|none=>
   rw[i]at d a;subst d;refine l _ ⟨?_,?_,?_⟩ ?_<;>dsimp only<;>rw[b7 M M]
   .omega
   .omega
   grind
   .omega
 .simp only[cP,kC]at b;refine j _ ?_;rw[a,EV M];rfl
theorem ah5(ls:Z dc)(n i:Int)(l:dc)(b:iY ls)(h0:0<=n)(d:n<ls.length)(c:ax ls n=O l)(e:l∈ls)(f:0<=i)(g:i<l.bC.length):T (F36 N (ls,n,i)) λ_=>True:=by
 have h:=b.len;unfold F36;simp only[c];refine cI (λJ j=>?_) ?_;refine bl (λst=>0<=st.fst.snd/\st.fst.snd<=n) (λst=>(n-st.fst.snd).toNat) ?_ ?_ ?_
 grind
 grind
 grind [a6,aL,b7]
 rintro⟨_,_⟩;apply eZ<;>intro a;simp only[aV]at a;exact dU;simp only[aV]at a;refine hM ?_
 grind [aL,ay,tY,a6,ad]
theorem F2(ls:Z dc)(c:bP)(d:iY ls):T (Nb N (ls,c)) λr=>r=gk ls c/\r.length<=129:=by
 unfold Nb;refine aB (tY hN ls c d) λy p=>?_;refine aS (λs=>s.1=gk ls c) (λJ e=>?_) (λx f=>ad ⟨f,by rw[f];exact DC ls c⟩);refine bl (λs=>s.1.1.length<=129/\∃o:V dQ,s.1.2.1=o.isSome/\(∀x,o=O x->(dQ.mk s.1.2.2.1 s.1.2.2.2.1 s.1.2.2.2.2.1 s.1.2.2.2.2.2.1 s.1.2.2.2.2.2.2.1 s.1.2.2.2.2.2.2.2)=x)/\s.1.1++nm ls (129-s.1.1.length) o=gk ls c) (λs=>129-s.1.1.length) ⟨aH,jP ls c,?_,?_,?_⟩ (by grind) ?_
 grind
 .intro x h;simp_all
 .rfl
 rintro rec ⟨⟨out,q,t,l,v,w,A,B⟩,u⟩ ⟨m,o,g,i,a⟩ n;dsimp only at m g i a;refine aw (λj=>aw (λb=>?_) (λb=>?_)) (λj=>?_)
 .obtain ⟨x,rfl⟩:=um.1 (g.symm.trans j);obtain rfl:=i x rfl;simp only[aV]at b;refine bO (cq dx dx) (aB (tY hN ls _ d) λz k=>n _ ⟨?_,jP ls l,?_,?_,?_⟩ ?_)
  grind
  grind
  .intro x h;rw[h]at k;rw[<-k.1]
  .rw[<-a,(M:129-out.length=(129-(out.length+1))+1)];simp[nm]
  grind
 .simp only[cP,EQ]at b;refine e _ ?_;rw[(M:129-out.length=0)]at a;simpa[nm]using a
 .refine e _ ?_;cases o with
  |some x=>grind|none=>
   have:nm ls (129-out.length) Y=[]:=by cases 129-out.length<;>rfl
   grind
theorem ah6(ls:Z dc)(n i:Int)(l:dc)(c:iY ls)(h0:0<=n)(t:n<ls.length)(f:ax ls n=O l)(g:l∈ls)(h:0<=i)(j:i<l.bC.length):T (F37 N (ls,n,i)) λ_=>True:=by
 have u:=c.len;unfold F37;simp only[f,aE];refine aL h j λx k v=>?_;obtain⟨y,a⟩:=No (Ux g k);have m:∀r:Z dQ,r=gk ls x.name/\r.length<=129->0<r.length/\r.length<=129:=λr d=>⟨by rw[d.1,sx a];simp,d.2⟩
 have F2:=ek (F2 hN ls x.name c) m;refine ay (tY a8 _ _ a8) λy a e=>?_;apply bE<;>intro b;apply cj<;>intro b;exact dU;refine ay (F2) λy a e=>cI (λJ o=>?_) ?_;refine cN (↑y.length) λrec _ _ p q s=>?_;dsimp only;apply a6<;>intro b
 grind [aL,bt,ad,b7]
 grind
 grind [ad]
 refine ay (F2) λy a e=>cI (λJ o=>?_) ?_;refine cN (↑y.length) λrec _ _ p q s=>?_;dsimp only;apply a6<;>intro b
 grind [aL,bt,ad,b7]
 grind
 grind [ad]
theorem Pe(ls:Z dc)(c:bP)(y:dQ)(j:iY ls)(n:jP ls c=O y):T (Uh N (ls,c)) λr=>r=mM ls c y:=by
 unfold Uh;refine aB (F2 hN ls c j) λl ⟨h,H⟩=>?_;have o:=sx n;have h0:ax l 0=O y:=by rw[h,o];rfl
 have I:0<l.length:=by grind
 have d:∀x∈l,rp x:=λx b=>j.cpt (q4 _ _ (λz a=>(s6 a).1) x (h▸b));simp only[h0,aE];refine aS (λs=>s.1=(y.name,y.dI,y.mL,(mM ls c y).bd,(mM ls c y).aD,(mM ls c y).bK)) (λJ q=>?_) (λx b=>ad ?_);rotate_left
 .obtain ⟨⟨t,v,w,A,B,C⟩,u⟩:=x;cases b;rfl
 rw[b7 M M];refine bl (λs=>-1<=s.1.1/\s.1.1<l.length/\s.1.2=(y.name,y.dI,y.mL,(l.drop (s.1.1+1).toNat).reverse.flatMap (·.bd),(l.drop (s.1.1+1).toNat).reverse.flatMap (·.aD),(l.drop (s.1.1+1).toNat).reverse.flatMap (·.bK))) (λs=>(s.1.1+1).toNat) ⟨by grind,by grind,?_⟩ (by grind) ?_
 grind [List.drop_length]
 rintro rec ⟨⟨p,t,v,w,A,B,C⟩,u⟩ ⟨D,k,m⟩ E;dsimp only at D k m;cases m;refine aw (λg=>?_) (λg=>?_)
 .simp only[aV]at g;obtain⟨x,e,b,G⟩:=dJ g k;have K:l.drop p.toNat=x::l.drop (p+1).toNat:=by
   obtain⟨hi,rfl⟩:=cr.1 G
   grind [oS]
  have L:(l.drop (p+1).toNat).reverse.length<=129:=dx;have i:∀z∈(l.drop (p+1).toNat).reverse,rp z:=λz a=>d z (Lx (List.mem_reverse.1 a));have P:=ke (f:=λx:dQ=>x.bd) λz a=>(i z a).bd;have Q:=ke (f:=λx:dQ=>x.aD) λz a=>(i z a).aD;have R:=ke (f:=λx:dQ=>x.bK) λz a=>(i z a).bK;have S:=(d x b).bd;have U:=(d x b).aD;have X:=(d x b).bK;simp only[e,aE];refine bO (cq M M) (bO (cq M M) (bO (cq M M) (E _ ⟨?_,?_,?_⟩ ?_)))
  grind [b7]
  grind [b7]
  grind [b7]
  grind [b7]
 .simp only[cP,EQ]at g;refine q _ ?_;dsimp only;rw[(M:(p+1).toNat=0),tD,h];rfl
omit hN in
theorem u9:∀{l:Z dQ},(l.map (·.name)).Nodup->∀{x:dQ},x∈l->l.find? (λy=>y.name==x.name)=O x
 |y::l,b,x,a=>by
  simp only[gb,oc]at b;rw[List.find?_cons];rcases fb.1 a with rfl|a
  .simp
  .have:(y.name==x.name)=F:=by grind
   rw[this];exact u9 b.2 a
omit hN in
theorem AR(ls:Z dc)(d:iY ls)(c:bP)(x:dQ)(e:jP ls c=O x):(mM ls c x).bd.length<=136314880/\(mM ls c x).aD.length<=136314880/\(mM ls c x).bK.length<=136314880/\x.bd.length<=(mM ls c x).bd.length/\x.aD.length<=(mM ls c x).aD.length/\x.bK.length<=(mM ls c x).bK.length:=by
 have h:(gk ls c).reverse.length<=129:=by grind [List.length_reverse,DC]
 have b:∀z∈(gk ls c).reverse,rp z:=λz a=>d.cpt (q4 _ _ (λz a=>(s6 a).1) z (List.mem_reverse.1 a));have i:=ke (f:=λx:dQ=>x.bd) λz a=>(b z a).bd;have j:=ke (f:=λx:dQ=>x.aD) λz a=>(b z a).aD;have k:=ke (f:=λx:dQ=>x.bK) λz a=>(b z a).bK;have g:=sx e;simp only[mM,xd];refine⟨M,M,M,?_,?_,?_⟩<;>simp only[g,List.reverse_cons,IU,tF,List.flatMap_nil,jf,ES]<;>omega
theorem ah7(ls:Z dc)(n i:Int)(l:dc)(k:iY ls)(o:((cs ls).map (·.name)).Nodup)(h0:0<=n)(G:n<ls.length)(p:ax ls n=O l)(q:l∈ls)(r:0<=i)(s:i<l.bC.length):T (F38 N (ls,n,i)) λ_=>True:=by
 have H:=k.len;unfold F38;simp only[p,aE];refine aL r s λx b c=>?_;have m:jP ls x.name=O x:=u9 o (Ux q b);obtain⟨t,u,v,w,z,A⟩:=AR ls k x.name x m;refine aB (Pe hN ls x.name x k m) λy j=>?_;rw[<-j]at t u v w z A;clear j;refine cI (λJ e=>?_) ?_;refine bl (λst=>0<=st.fst.snd/\st.fst.snd<=↑y.bd.length) (λst=>(↑y.bd.length-st.fst.snd).toNat) ?_ ?_ ?_
 grind [b7]
 grind [b7]
 rintro rec ⟨⟨_,B⟩,_⟩ d f;dsimp only at d;dsimp only;obtain⟨g,h⟩:=d;apply a6<;>intro a;refine cI (λJ e=>?_) ?_;apply eZ<;>intro a;exact dU;refine cN B λrec _ _ g h f=>?_;dsimp only;apply a6<;>intro a;refine aL a8 M λx b c=>aL a8 a8 λx b c=>?_
 grind [bt,ad,b7]
 grind
 grind [b7]
 grind
 rintro⟨_,_⟩;refine cI (λJ e=>?_) ?_;refine bl (λst=>0<=st.fst.snd/\st.fst.snd<=↑y.aD.length) (λst=>(↑y.aD.length-st.fst.snd).toNat) ?_ ?_ ?_
 grind [b7]
 grind [b7]
 rintro rec ⟨⟨_,C⟩,_⟩ d f;dsimp only at d;dsimp only;obtain⟨g,h⟩:=d;apply a6<;>intro a;apply eZ<;>intro a;exact dU;refine cI (λJ e=>?_) ?_;refine cN C λrec _ _ g h f=>?_;dsimp only;apply a6<;>intro a;refine aL a8 M λx b c=>aL a8 a8 λx b c=>?_
 grind [bt,ad,b7]
 grind
 rintro⟨_,_⟩;refine aL a8 a8 λx b c=>ay (tY a8 _ _ a8) λy j D=>?_;apply cj<;>intro a;exact dU
 grind [b7]
 grind
 rintro⟨_,_⟩;refine cI (λJ e=>?_) ?_;refine bl (λst=>0<=st.fst.snd/\st.fst.snd<=↑y.bK.length) (λst=>(↑y.bK.length-st.fst.snd).toNat) ?_ ?_ ?_
 grind [b7]
 grind [b7]
 rintro rec ⟨⟨_,E⟩,_⟩ d f;dsimp only at d;dsimp only;obtain⟨g,h⟩:=d;apply a6<;>intro a;apply eZ<;>intro a;exact dU;refine cI (λJ e=>?_) ?_;refine cN E λrec _ _ g h f=>?_;dsimp only;apply a6<;>intro a;refine aL a8 M λx b c=>aL a8 a8 λx b c=>?_
 grind [bt,ad,b7]
 grind
 rintro⟨_,_⟩;refine aL a8 a8 λx b c=>ay (tY a8 _ _ a8) λy j D=>?_;apply cj<;>intro a;exact dU
 grind [b7]
 grind
 grind [ad]
theorem adz(ls:Z dc)(n i:Int)(l:dc)(b:iY ls)(h0:0<=n)(w:n<ls.length)(e:ax ls n=O l)(z:l∈ls)(q:0<=i)(s:i<l.eu.length):T (Xh N (ls,n,i)) λ_=>True:=by
 have A:=b.len;have t:=λl u=>(b.all l u).eu;unfold Xh;simp only[e,aE];refine aL q s λx f h=>aB (tY hN ls x.au b) λy j=>aw (λ_=>ad trivial) λa=>?_;cases k:jP ls x.au with
 |none=>grind|some c=>
  have B:=(AR ls b x.au c k).2.2.1;have Pe:=ek (P:=λr=>r=mM ls x.au c) (Q:=λr=>r.bK.length<=136314880) (Pe hN ls x.au c b k) (λr C=>by grind);clear j;refine cI (λJ g=>?_) ?_;apply aw<;>intro a;refine ay (Pe) λy j D=>cI (λJ g=>?_) ?_;refine bl (λst=>0<=st.fst.snd/\st.fst.snd<=↑y.bK.length) (λst=>(↑y.bK.length-st.fst.snd).toNat) ?_ ?_ ?_
  grind
  grind
  rintro rec ⟨⟨_,_⟩,_⟩ d m;dsimp only at d;dsimp only;obtain⟨o,p⟩:=d;apply a6<;>intro a;apply aw<;>intro a
  grind [b7]
  grind [aL,b7]
  grind
  rintro⟨_,_⟩;apply cj<;>intro a;simp only[aV]at a;exact dU
  grind
  grind
  rintro⟨_,_⟩;refine cI (λJ g=>?_) ?_;refine bl (λst=>0<=st.fst/\st.fst<=n) (λst=>(n-st.fst).toNat) M M ?_;rintro rec ⟨v,_⟩ d m;dsimp only at d;dsimp only;obtain⟨o,p⟩:=d;apply a6<;>intro a;refine cI (λJ g=>?_) ?_;refine s5 (l:=ls) (i:=v) a8 M λx e f h=>?_;simp only[e];have E:=t x f;refine cN (↑x.eu.length) λrec _ _ o p m=>hM ?_;apply a6<;>intro a;refine hM ?_;refine aL a8 a8 λx f h=>?_
  grind [bt,ad,b7]
  grind
  grind [b7]
  grind
  grind [ad]
theorem ah8(ls:Z dc)(n:Int)(k:iY ls)(h0:0<=n)(w:n<ls.length):T (F39 N (ls,n)) λ_=>True:=by
 have B:=k.len;obtain⟨l,m,p,_⟩:=dJ h0 w;have s:=λl d=>(k.all l d).eu;have t:=λl d=>(k.all l d).equations;have u:=λl d=>(k.all l d).eL;have v:=λl d=>(k.all l d).c7;have C:=s l p;have D:=t l p;have E:=u l p;have G:=v l p;unfold F39;simp only[m,aE];refine cI (λJ e=>?_) ?_;refine cN (↑l.eu.length) λrec _ _ f g c=>?_;dsimp only;apply a6<;>intro b
 grind [ay,adz,bE,EI,ad,b7]
 grind
 rintro⟨_,_⟩;refine cI (λJ e=>?_) ?_;refine cN (↑l.equations.length) λrec _ _ f g c=>?_;dsimp only;apply a6<;>intro b;refine aL a8 a8 λx a j=>ay (tY a8 _ _ a8) λy q r=>?_;apply cj<;>intro b
 grind [ay,EI,ad]
 grind [b7]
 grind
 rintro⟨_,_⟩;refine cI (λJ e=>?_) ?_;refine cN (↑l.eL.length) λrec _ _ f g c=>?_;dsimp only;apply a6<;>intro b;refine cI (λJ e=>?_) ?_;refine aL a8 a8 λx a j=>ay (tY a8 _ _ a8) λy q r=>?_;apply cj<;>intro b
 grind [ay,EI,ad]
 refine bl (λst=>0<=st.fst/\st.fst<=n) (λst=>(n-st.fst).toNat) M M ?_;rintro rec ⟨z,_⟩ o c;dsimp only at o;dsimp only;obtain⟨f,g⟩:=o;apply a6<;>intro b;refine cI (λJ e=>?_) ?_;refine s5 (l:=ls) (i:=z) a8 M λx m a j=>?_;simp only[m];have h:=s x a;have h:=t x a;have h:=u x a;have h:=v x a;refine cN (↑x.eL.length) λrec _ _ f g c=>hM ?_;apply a6<;>intro b;refine hM ?_;refine aL a8 a8 λx a j=>?_;apply bt<;>intro b;exact ay (EI a8 _ _ _ _ _) λy q r=>dU;apply c
 grind [b7]
 exact acz
 grind
 grind [b7]
 grind
 grind [b7]
 grind
 rintro⟨_,_⟩;refine cI (λJ e=>?_) ?_;refine cN (↑l.c7.length) λrec _ _ f g c=>?_;dsimp only;apply a6<;>intro b;refine cI (λJ e=>?_) ?_;refine aL a8 a8 λx a j=>ay (tY a8 _ _ a8) λy q r=>?_;apply cj<;>intro b
 grind [ay,EI,ad]
 refine bl (λst=>0<=st.fst/\st.fst<=n) (λst=>(n-st.fst).toNat) M M ?_;rintro rec ⟨A,_⟩ o c;dsimp only at o;dsimp only;obtain⟨f,g⟩:=o;apply a6<;>intro b;refine cI (λJ e=>?_) ?_;refine s5 (l:=ls) (i:=A) a8 M λx m a j=>?_;simp only[m];have h:=s x a;have h:=t x a;have h:=u x a;have h:=v x a;refine cN (↑x.c7.length) λrec _ _ f g c=>hM ?_;apply a6<;>intro b;refine hM ?_;refine aL a8 a8 λx a j=>?_;apply bt<;>intro b;exact ay (EI a8 _ _ _ _ _) λy q r=>dU;apply c
 grind [b7]
 exact acz
 grind
 grind [b7]
 grind
 grind [b7]
 grind
 grind [ad]
theorem ah9(ls:Z dc)(h:iY ls)(s:((cs ls).map (·.name)).Nodup):T (F14 N ls) λ_=>True:=by
 have t:=h.len;have k:=h.all;have m:=λl o=>(h.all l o).bC;unfold F14;apply a6<;>intro a
 grind [ay,EI,ad]
 refine cI (λJ b=>?_) ?_;refine cN (↑ls.length) λrec _ _ c d e=>?_;dsimp only;apply a6<;>intro a
 grind [aL,ay,ah4,bE,EI,ad,b7]
 grind
 rintro⟨_,_⟩;refine cI (λJ b=>?_) ?_;refine bl (λst=>0<=st.fst/\st.fst<=↑ls.length) (λst=>(↑ls.length-st.fst).toNat) M M ?_;rintro rec ⟨p,_⟩ g e;dsimp only at g;dsimp only;obtain⟨c,d⟩:=g;apply a6<;>intro a;refine cI (λJ b=>?_) ?_;refine cN p λrec _ _ c d e=>?_;dsimp only;apply a6<;>intro a;refine aL a8 M λx f n=>have j:=k x f;have j:=m x f;aL a8 a8 λx f n=>?_
 grind [bt,ay,EI,ad,b7]
 grind
 grind [b7]
 grind
 rintro⟨_,_⟩;refine cI (λJ b=>?_) ?_;refine cN 3 λrec _ _ c d e=>?_;dsimp only;apply a6<;>intro a;refine cI (λJ b=>?_) ?_;refine bl (λst=>0<=st.fst/\st.fst<=↑ls.length) (λst=>(↑ls.length-st.fst).toNat) M M ?_;rintro rec ⟨q,_⟩ g e;dsimp only at g;dsimp only;obtain⟨c,d⟩:=g;apply a6<;>intro a;refine cI (λJ b=>?_) ?_;refine s5 (l:=ls) (i:=q) a8 a8 λx r f n=>?_;simp only[r];have j:=k x f;have j:=m x f;refine cN (↑x.bC.length) λrec _ _ c d e=>hM ?_;apply a6<;>intro a;refine cI (λJ b=>?_) ?_;apply bt<;>intro a
 grind [ay,ah5]
 apply bt<;>intro a
 grind [ay,ah6]
 grind [ay,ah7]
 rintro⟨⟨_,_⟩,_⟩;apply bE<;>intro a;simp only[aV]at a
 grind [ay,EI,ad]
 simp only[aV]at a
 grind [b7]
 grind
 grind [b7]
 grind
 grind [b7]
 grind
 rintro⟨_,_⟩;refine cI (λJ b=>?_) ?_;refine cN (↑ls.length) λrec _ _ c d e=>?_;dsimp only;apply a6<;>intro a
 grind [ay,ah8,bE,ad,b7]
 grind
 grind [ad]
end
noncomputable def DD {α:Type} (N:Nat) (d:Z dc) (i:dc->V (Z α)) (j:(Int×Int×α)->Hp->V ((V h9)×Hp)) (h:Hp):V ((V h9)×Hp):=aG (λ((_,k):(ab)×Hp)=>O (Y,k)) λl=>aQ (λm((a,e):(Int)×Hp)=>bif decide (a<(d.length:Int))then aG (λ((_,n):(ab)×Hp)=>m ((IntKind.i64.wrap (a+1)),n)) λo=>(ax d a).bind λp=>(i p).bind λf=>aQ (λq((b,g):(Int)×Hp)=>bif decide (b<(f.length:Int))then(ax f b).bind λr=>(j (a,b,r) g).bind λc=>bif !c.1.isNone then O (c.1,c.2)else q ((IntKind.i64.wrap (b+1)),c.2)else o ((),g)) N (0,e)else l ((),e)) N (0,h)
def jj(r:V h9):Prop:=∃f,r=O f/\f.ka≠0
def jj.some {r:V h9} (h:jj r):r.isNone=F:=by obtain ⟨f,rfl,_⟩:=h;rfl
section
variable{N:Nat}(hN:1073741824<=N)
include hN
theorem q5{j:dc->V (Z α)}{g:(Int×Int×α)->Hp->V ((V h9)×Hp)}{h:Hp}(a:dc->Z α)(o:∀l,j l=O (a l))(K:ls.length<=1048576)(t:∀l∈ls,(a l).length<=1048576)
  (I:Z α->Hp->Prop) (Q:Hp->Prop) (h0:I [] h)
  (step:∀(n i:Int)(l:dc)(x:α)(pre post:Z α)(h:Hp),0<=n->n<ls.length->ax ls n=O l->l∈ls->x∈a l->ls.flatMap a=pre++x::post->I pre h->T (g (n,i,x) h) λr=>(r.1=Y/\I (pre++[x]) r.2)∨(jj r.1/\Q r.2)):
  T (DD N ls j g h) λr=>(r.1=Y/\I (ls.flatMap a) r.2)∨(jj r.1/\Q r.2):=by
 unfold DD;refine aS (λs=>I (ls.flatMap a) s.2) (λJ L=>?_) (λx b=>ad (.inl ⟨rfl,b⟩));refine bl (λs=>0<=s.1/\s.1<=ls.length/\I ((ls.take s.1.toNat).flatMap a) s.2) (λs=>(ls.length-s.1).toNat) ⟨aH,aH,by grind⟩ (by grind) ?_;rintro rec ⟨p,P⟩ ⟨d,u,v⟩ w;dsimp only at d u v;refine aw (λc=>?_) (λc=>?_)
 .simp only[aV]at c;obtain⟨l,hz,hm,y⟩:=dJ d c;have R:ls.drop p.toNat=l::ls.drop (p.toNat+1):=by obtain⟨hi,rfl⟩:=cr.1 y;simp_all
  have S:ls.take (p.toNat+1)=ls.take p.toNat++[l]:=by grind
  have U:ls.flatMap a=(ls.take p.toNat).flatMap a++(a l++(ls.drop (p.toNat+1)).flatMap a):=by grind [A7]
  refine aS (λs=>I ((ls.take (p.toNat+1)).flatMap a) s.2) (λX a0=>?_) (λx b=>w _ ⟨?_,?_,?_⟩ ?_)
  .simp only[hz,o,aE];have b0:=t l hm;refine bl (λs=>0<=s.1/\s.1<=(a l).length/\I ((ls.take p.toNat).flatMap a++(a l).take s.1.toNat) s.2) (λs=>((a l).length-s.1).toNat) ⟨aH,aH,by grind⟩ (by grind) ?_;rintro c0 ⟨q,z⟩ ⟨k,A,m⟩ B;dsimp only at k A m;refine aw (λf=>?_) (λf=>?_)
   .simp only[aV]at f;refine aL k f λx b C=>?_;have d0:(a l).drop q.toNat=x::(a l).drop (q.toNat+1):=by obtain⟨hi,rfl⟩:=cr.1 C;exact oS hi
    have D:(a l).take (q.toNat+1)=(a l).take q.toNat++[x]:=by grind
    refine aB (step p q l x ((ls.take p.toNat).flatMap a++(a l).take q.toNat) ((a l).drop (q.toNat+1)++(ls.drop (p.toNat+1)).flatMap a) z d c hz hm b ?_ m) λr E=>?_
    grind [A7]
    .rcases E with⟨e,G⟩|⟨e,H⟩
     .rw[e];refine B _ ⟨?_,?_,?_⟩ ?_<;>dsimp only<;>rw[b7 M M]
      .omega
      .omega
      .rw[(M:(q+1).toNat=q.toNat+1),D,<-y7];exact G
      .omega
     .rw[e.some];exact ad (.inr ⟨e,H⟩)
   grind [cP,kC,de]
  grind [b7]
  grind [b7]
  .dsimp only;rw[b7 M M,(M:(p+1).toNat=p.toNat+1)];exact b
  .dsimp only;rw[b7 M M];omega
 grind [cP,kC,de]
theorem oQ(a b c d e:Int):T (zQ N (a,b,c,d,e)) λr=>e≠0->jj r:=⟨_,rfl,λh=>⟨_,rfl,h⟩⟩
theorem aia(x y:dc):T (F68 N (x,y)) λ_=>True:=⟨_,rfl,trivial⟩
theorem aib(p:V Nat)(ls:Z dc)(e:iY ls):T (F28 N (p,ls)) λr=>(r=Y/\ls.length<=128/\∀c∈cs ls,c.name≠[])∨jj r:=by
 have t:=e.len;have f:=e.all;unfold F28;refine aw (λ_=>aB (oQ hN _ _ _ _ _) λy d=>ad (.inr (d b9))) λl=>?_;simp only[cP,kC]at l;refine aS (λ_=>∀c∈cs ls,c.name≠[]) (λJ g=>?_) (λx a=>?_)
 .refine bl (λs=>0<=s.1/\s.1<=ls.length/\∀c∈cs (ls.take s.1.toNat),c.name≠[]) (λs=>(ls.length-s.1).toNat) ⟨aH,aH,by simp[cs]⟩ (by grind) ?_;rintro rec ⟨p,u⟩ ⟨h,m,n⟩ i;dsimp only at h m n;refine aw (λb=>?_) (λb=>g _ ?_)
  .simp only[aV]at b;refine aL h b λx a j=>aB (ah3 hN x (f x a)) λy d=>aw (λk=>?_) (λk=>?_)
   grind [aB,oQ,ad]
   .simp only[oa,gE]at k;refine i _ ⟨?_,?_,?_⟩ ?_<;>dsimp only<;>rw[b7 M M]
    .omega
    .omega
    .have o:ls.take (p.toNat+1)=ls.take p.toNat++[x]:=by obtain⟨hi,rfl⟩:=cr.1 j;simp_all
     rw[(M:(p+1).toNat=p.toNat+1),o]
     grind [cs]
    .omega
  grind [cP,kC,de]
 .refine aS (λ_=>True) (λJ g=>?_) (λ_ _=>ad (.inl ⟨rfl,M,a⟩));clear a;refine cN (↑ls.length) λrec _ _ v w i=>?_;dsimp only;apply a6<;>intro b;refine aL a8 a8 λx a j=>have z:=f x a;bO ?_ ?_
  grind
  refine ay (ahY a8 _ _ ?_ ?_) λy d q=>?_
  grind
  grind [ek,aia]
  apply aw<;>intro b;refine ay (oQ a8 _ _ _ _ _) λy d q=>ad ?_;rotate_left
  grind [b7]
  grind
  grind
end
def eK(i:Nat):Z dQ->Z (bP×V Nat)
 |[]=>[]|c::l=>(c.name,O i)::eK (i+1) l
def xq(i:Nat):Z dQ->bP->V Nat
 |[],_=>Y|c::l,s=>if c.name=s then O i else xq (i+1) l s
def q6:∀(l:Z dQ)(i:Nat),(eK i l).length=l.length
 |[],_=>rfl|c::l,i=>by simp[eK,q6 l]
def zV(c:dQ):∀(l:Z dQ)(i:Nat),eK i (l++[c])=eK i l++[(c.name,O (i+l.length))]
 |[],i=>by simp[eK]|d::l,i=>by simp[eK,zV c l];omega
theorem fw(s:bP):∀(l:Z dQ)(i:Nat),bp dz (eK i l) s=(xq i l s).map O
 |[],_=>rfl|c::l,i=>by
  simp only[eK,bp,xq];by_cases h:c.name=s
  grind
  .rw[ao h,wW (λe=>h e.symm)];exact fw s l (i+1)
theorem DE{s:bP}:∀{l:Z dQ}{i:Nat},xq i l s=Y->∀c∈l,c.name≠s
 |[],_,_,c,a=>by cases a
 |d::l,i,h,c,a=>by
  simp only[xq]at h;split at h
  .cases h
  .rcases fb.1 a with rfl|a
   grind
   .exact DE h c a
theorem DF{s:bP}:∀{l:Z dQ}{i k:Nat},xq i l s=O k->i<=k/\∃c,l[k-i]?=O c/\c.name=s
 |[],_,_,h=>by cases h
 |d::l,i,k,h=>by
  simp only[xq]at h;split at h
  grind
  .obtain ⟨a,c,b,e⟩:=DF h
   grind
theorem oH{l:Z dQ}(a:(l.map (·.name)).Nodup):∀{i k:Nat}{c:dQ},l[k]?=O c->xq i l c.name=O (i+k):=by
 induction l with
 |nil=>grind|cons d l f=>
  intro i k c h;simp only[gb,oc]at a;cases k with
  |zero=>cases h;simp[xq]
  |succ k=>
   have b:c∈l:=bW h;have:d.name≠c.name:=λe=>a.1 (e▸Lw b);simp only[xq,ao this]
   grind
abbrev ix(l:Z dQ)(s:bP):V Nat:=xq 0 l s
theorem DG{l:Z dQ}{k:Nat}(h:ix l s=O k):k<l.length/\∃c,l[k]?=O c/\c.name=s:=by
 obtain⟨_,c,a,b⟩:=DF h
 grind
theorem xe:jP ls s=(ix (cs ls) s).bind λk=>(cs ls)[k]?:=by
 unfold jP ix;have:∀(l:Z dQ)(i:Nat),(xq i l s).isSome=(l.find? λx=>x.name==s).isSome/\∀k,xq i l s=O k->l.find? (λx=>x.name==s)=l[k-i]?:=by
  intro l;induction l with
  |nil=>intro i;exact ⟨rfl,λk h=>by cases h⟩
  |cons c l b=>
   intro i;by_cases h:c.name=s
   .simp only[xq,aq h,List.find?_cons]
    grind
   .simp only[xq,ao h,List.find?_cons];rw[show(c.name==s)=F by simp[h]];obtain⟨a,d⟩:=b (i+1);refine⟨a,λk e=>?_⟩;have:=(DF e).1
    grind
 obtain⟨a,d⟩:=this (cs ls) 0;cases h:xq 0 (cs ls) s with
 |none=>grind|some k=>grind
theorem Np(l:Z (V (Z β)))(xs:Z β)(h:xs≠[]):gH (l++[O xs]) (O (l.length,xs.length))=O xs:=by
 have h0:0<xs.length:=by grind
 have a:Nat.ble xs.length xs.length=W:=xw (bq _)
 grind [Nat.blt,xw,gH,e8]
def XD(l:Z (V (Z bP)))(p:V (Nat×Nat))(xs:Z bP):Prop:=match p with
 |none=>xs=[]|some (i,n)=>e8 l i=O xs/\n=xs.length/\xs≠[]
theorem XD.hs {l:Z (V (Z bP))} {p:V (Nat×Nat)} (h:XD l p xs):gH l p=O xs:=by
 cases p with
 |none=>rw[show xs=[]from h];rfl|some p=>
  obtain⟨i,n⟩:=p;obtain⟨b,a,c⟩:=h;subst a;have h0:0<xs.length:=by grind
  have d:Nat.ble xs.length xs.length=W:=xw (bq _)
  grind [Nat.blt,xw,gH]
theorem XD.new (l:Z (V (Z bP))) (h:xs≠[]):XD (l++[O xs]) (O (l.length,xs.length)) xs:=⟨by simp[e8],rfl,h⟩
def zM(p:V (Nat×Nat)):AM:=AM.mk (O 0) p (w6.mk (iO.mk) (w4.mk (iP.mk) 0) (qU.mk (iO.mk) (yC.mk 0 0))) Y (Ib.mk (iP.mk) (nK.mk) 0)
def XF(c:dQ)(a:bP)(k:Nat):hJ:=hJ.mk c a Y k (O k) Y Y [] [] F F
structure xf(pre:List dQ)(h:Hp):Prop where
 fP:∃p,h.fP=[zM p]/\XD h.vx p (pre.map (·.name))
 jU:h.jU=[eK 0 pre]
 eY:h.eY.length=pre.length/\∀k c,pre[k]?=O c->∃tu,h.eY[k]?=O (XF c tu k)
 zP:h.zP=List.replicate pre.length []
 kN:(pre.map (·.name)).Nodup
 len:pre.length<=128
 FX:h.FX=[]
 Ie:h.Ie=[]
 all:h.all=[]
 jn:h.jn=[]
 oe:True
section
variable{N:Nat}(hN:1073741824<=N)
include hN
theorem aic(n i:Int)(c:dQ)(ls:Z dc)(l:dc)(f:ax ls n=O l)(pre:Z dQ)(h:Hp)(g:xf pre h):T (F71 N (n,i,c,O 0,ls) h) λr=>(r.1=Y/\xf (pre++[c]) r.2)∨(jj r.1/\True):=by
 obtain⟨⟨p,j,m⟩,o,⟨b,C⟩,q,D,E,s,t,u,v,w⟩:=g;have x:=m.hs;unfold F71;simp only[aE,j,o,zM,dX,ic,q6,f,fw];refine aw (λ_=>aB (oQ hN _ _ _ _ _) λy a=>ad (.inr ⟨a b9,trivial⟩)) λz=>?_;simp only[qo,ne_eq]at z;cases d:xq 0 pre c.name with
 |some k=>simp only[dr,gh,mV,tA,aW];exact aB (oQ hN _ _ _ _ _) λy a=>ad (.inr ⟨a b9,trivial⟩)|none=>
  have G:=DE d;have A:bp dz (eK 0 pre) c.name=Y:=by rw[fw,d];rfl
  have H:(pre.map (·.name)++[c.name])≠[]:=aH;simp only[jr,Be,mU,fQ,aX,cw,A6,aE,ic,x,Di A,iT];refine bO (cq dx dx) (bO aH (ad (.inl ⟨rfl,?_⟩)));have I:pre.length<128:=by grind
  refine⟨⟨_,rfl,?_⟩,?_,⟨?_,λk J e=>?_⟩,?_,?_,?_,s,t,u,v,w⟩
  grind [XD.new]
  .show [eK 0 pre++[(c.name,O h.eY.length)]]=_;rw[zV,b,dN]
  .simp[b]
  .by_cases K:k<pre.length
   grind
   .have B:k=pre.length:=by grind
    subst B;simp at e;subst e;refine⟨l.name,?_⟩
    grind [XF]
  .show h.zP++[[]]=_;rw[q];simp[List.replicate_succ']
  grind
  grind
end
theorem DH{A σ:Type}{step:A->σ->(σ->V β)->V β}{done:σ->V β}{Q:β->Prop}(l:Z A)(g:l.Nodup)(S:(A->Prop)->σ){c:σ}(h0:c=S λ_=>False)
  (m:∀(P:A->Prop) x,(∀y,P y->y∈l)->x∈l->¬P x->∀k,step x (S P) k=k (S λy=>P y∨y=x)) (h:T (done (S λx=>x∈l)) Q):T (lf step done l.length l c) Q:=by
 obtain⟨r,s,n⟩:=h;refine⟨r,Dh (I:=λleft st=>∃P:A->Prop,st=S P/\(∀x,P x↔x∈l/\x∉left)/\(∀x∈left,x∈l)/\left.Nodup) ?_ ?_ l.length l c rfl ⟨λ_=>False,h0,λx=>⟨λh=>h.elim,λh=>h.2 h.1⟩,λx b=>b,g⟩,n⟩
 .rintro st ⟨P,rfl,a,_,_⟩;have:P=λx=>x∈l:=funext λx=>propext ⟨λh=>((a x).1 h).1,λh=>(a x).2 ⟨h,aH⟩⟩
  grind
 .rintro left st i x ⟨P,rfl,a,e,o⟩ b;have f:x∈left:=bW b;refine⟨_,⟨_,rfl,λy=>?_,λy d=>e y (List.mem_of_mem_eraseIdx d),o.sublist (List.eraseIdx_sublist _ _)⟩,m P x (λy d=>((a y).1 d).1) (e x f) (λh=>((a x).1 h).2 f)⟩;have t:∀y,y∈left.eraseIdx i↔y∈left/\y≠x:=λy=>by
   obtain⟨hi,rfl⟩:=cr.1 b;rw[List.mem_eraseIdx_iff_getElem];constructor
   .rintro ⟨j,p,u,rfl⟩
    grind [fR,List.getElem_inj]
   .rintro ⟨q,v⟩;obtain⟨j,p,rfl⟩:=hB q
    grind
  grind
theorem DI(l:Z α)(f a:Nat->α->β)(k:Nat)(x:β)(b:∀e,l[k]?=O e->x=a k e)(c:∀j e,j≠k->l[j]?=O e->f j e=a j e):(l.mapIdx f).set k x=l.mapIdx a:=by
 apply tE
 grind
theorem jF:∀(l:Z dQ)(i:Nat)(x:bP×V Nat),x∈eK i l↔∃k c,l[k]?=O c/\x=(c.name,O (i+k))
 |[],i,x=>by simp[eK]|d::l,i,x=>by
  simp only[eK,fb,jF l (i+1) x];constructor
  .rintro (rfl|⟨k,c,a,rfl⟩)
   .exact ⟨0,d,rfl,rfl⟩
   .exact ⟨k+1,c,a,by grind⟩
  grind
theorem q7:∀(l:Z dQ)(i:Nat),(eK i l).Nodup
 |[],i=>by simp[eK]|d::l,i=>by
  simp only[eK,oc];refine⟨λh=>?_,q7 l (i+1)⟩
  grind [jF,Prod.mk.inj,aN]
def EJ(l:Z dQ)(o:V Nat):V Nat:=o.bind λk=>(l[k]?).bind λc=>ix l c.dI
def l9(l:Z dQ):Nat->V Nat->V Nat
 |0,o=>o|j+1,o=>l9 l j (EJ l o)
theorem s7(l:Z dQ):∀(j:Nat)(o:V Nat),l9 l (j+1) o=EJ l (l9 l j o)
 |0,_=>rfl|j+1,o=>s7 l j (EJ l o)
def yK(l:Z dQ):∀j:Nat,l9 l j Y=Y
 |0=>rfl|j+1=>yK l j
def xg(l:Z dQ):∀(i j:Nat)(o:V Nat),l9 l (i+j) o=l9 l j (l9 l i o)
 |0,j,o=>by rw[dN];rfl|i+1,j,o=>by rw[Nat.add_right_comm];exact xg l i j (EJ l o)
def yL{l:Z dQ}{k:Nat}(h:EJ l o=O k):k<l.length:=by obtain⟨j,_,h⟩:=mT.1 h;obtain⟨c,_,h⟩:=mT.1 h;exact(DG h).1
def Ax(a:Nat->dQ->V Nat)(b:Nat->dQ->dQ)(c:dQ)(d:bP)(k:Nat):hJ:=hJ.mk (b k c) d (a k c) k (O k) Y Y [] [] F F
structure lu(l:List dQ)(up:Nat->dQ->Option Nat)(cc:Nat->dQ->dQ)(h:Hp):Prop where
 fP:∃p,h.fP=[zM p]/\XD h.vx p (l.map (·.name))
 jU:h.jU=[eK 0 l]
 eY:h.eY.length=l.length/\∀k c,l[k]?=O c->∃tu,h.eY[k]?=O (Ax up cc c tu k)
 zP:h.zP=List.replicate l.length []
 kN:(l.map (·.name)).Nodup
 len:l.length<=128
 FX:h.FX=[]
 Ie:h.Ie=[]
 jn:h.jn=[]
 oe:True
def xf.aaF {l:Z dQ} {h:Hp} (a:xf l h):lu l (λ_ _=>Y) (λ_ c=>c) h:=⟨a.fP,a.jU,a.eY,a.zP,a.kN,a.len,a.FX,a.Ie,a.jn,a.oe⟩
theorem lu.pF {l:Z dQ} {d up':Nat->dQ->V Nat} {e cc':Nat->dQ->dQ} {h:Hp} (a:lu l d e h) (f:Nat->hJ->hJ) (i:∀k c b,l[k]?=O c->f k (Ax d e c b k)=Ax up' cc' c b k):
  lu l up' cc' {h with eY:=h.eY.mapIdx f}:=
 ⟨a.fP,a.jU,⟨by rw[<-a.eY.1];simp,λk c g=>by
  obtain⟨b,j⟩:=a.eY.2 k c g
  grind⟩,a.zP,a.kN,a.len,a.FX,a.Ie,a.jn,a.oe⟩
section
variable{N:Nat}(hN:1073741824<=N)
include hN
theorem Nq(ls:Z dc)(f:dc->V (Z dQ))(g:(Int×Int×dQ)->Hp->V ((V h9)×Hp))(h:Hp):F69 N (ls,f,g) h=DD N ls f g h:=rfl
theorem aie(ls:Z dc)(b:iY ls)(h:Hp)(a:xf [] h):T (F29 N (O 0,ls) h) λr=>(r.1=Y/\xf (cs ls) r.2)∨(jj r.1/\True):=by unfold F29;dsimp only;rw[Nq hN];exact aB (q5 hN (λl=>l.bC) (λl=>rfl) b.len (λl c=>(b.all l c).bC) xf (λ_=>True) a λn i l x pre post h _ _ d _ _ _ a=>aic hN n i x ls l d pre h a) λy e=>ad e
def QN(l:Z dQ)(k:Nat):Prop:=∀j,1<=j->j<=l.length->l9 l j (O k)≠O k
def va(l:Z dQ)(c:dQ):Prop:=(c.dI=[]∨(ix l c.dI).isSome)/\∃k,l[k]?=O c/\QN l k
theorem aif(n i:Int)(l:Z dQ)(c:dQ)(k:Nat)(d:l[k]?=O c)(h:Hp)(K:lu l (λ_ c=>ix l c.dI) (λ_ c=>c) h):T (F72 N (n,i,c,O 0) h) λr=>(r.1=Y/\r.2=h/\va l c)∨(jj r.1/\True):=by
 obtain⟨⟨p,L,j0⟩,P,⟨k0,A⟩,l0,Q,m0,n0,o0,p0,q0⟩:=K;have R:(eK 0 l).length=l.length:=q6 l 0;have B:ix l c.name=O k:=by have:=oH (i:=0) Q d;grind
 obtain⟨r0,C⟩:=A k c d;have S:∀k',k'<l.length->∃g m,l[k']?=O g/\h.eY[k']?=O (Ax (λ_ c=>ix l c.dI) (λ_ c=>c) g m k'):=λk' U=>by
  obtain⟨m,s0⟩:=A k' _ (cX U)
  grind
 have t0:(c.dI=[]∨(ix l c.dI).isSome)->∀(f:(ab×ab->V (V h9×Hp))->(((V Nat)×Int)×ab->V (V h9×Hp))->((V Nat)×Int)×ab->V (V h9×Hp)),
   (∀J rec e t,f J rec ((e,t),())=bif !e.isNone then bif decide (t<(l.length:Int))then e.bind λi64=>(h.eY[i64]?).bind λX=>bif X.au.name==c.name then(zQ N (n,2,i,0,43)).bind λa0=>O (a0,h)else e.bind λb0=>(h.eY[b0]?).bind λc0=>rec ((c0.up,IntKind.i64.wrap (t+1)),())else J ((),())else J ((),()))->
   T (aG (λ(_:ab×ab)=>O (Y,h)) λJ=>aQ (f J) N ((ix l c.dI,0),())) λr=>(r.1=Y/\r.2=h/\va l c)∨(jj r.1/\True):=by
  intro D f d0;refine aS (λ_=>va l c) (λJ E=>?_) (λx v=>ad (.inl ⟨rfl,rfl,v⟩));have e0:EJ l (O k)=ix l c.dI:=by simp[EJ,d]
  refine bl (λs=>0<=s.1.2/\s.1.2<=l.length/\s.1.1=l9 l (s.1.2.toNat+1) (O k)/\∀j,1<=j->j<=s.1.2.toNat->l9 l j (O k)≠O k) (λs=>(l.length-s.1.2).toNat) ⟨aH,aH,by simp[l9,e0],λj w G=>by grind⟩ (by grind) ?_;rintro rec ⟨⟨x,j⟩,u⟩ ⟨f0,g0,H,I⟩ h0;dsimp only at f0 g0 H I;rw[d0];cases x with
  |none=>
   refine E _ ⟨D,k,d,λa w G=>?_⟩;by_cases u0:a<=j.toNat
   grind
   .have:l9 l a (O k)=Y:=by rw[(M:a=(j.toNat+1)+(a-(j.toNat+1))),xg,<-H,yK]
    grind
  |some x=>
   simp only[mV,tA,aW];refine aw (λb=>?_) (λb=>E _ ⟨D,k,d,λa w G=>I a w ?_⟩)
   .simp only[aV]at b;have v:x<l.length:=yL (o:=l9 l j.toNat (O k)) (by rw[<-s7];grind);obtain⟨g,m,w0,i0⟩:=S x v;simp only[aE,i0,Ax];refine aw (λ_=>aB (oQ hN _ _ _ _ _) λy z=>ad (.inr ⟨z b9,trivial⟩)) λx0=>h0 _ ⟨?_,?_,?_,?_⟩ ?_
    grind [b7]
    grind [b7]
    grind [b7,s7,EJ]
    grind [b7]
    grind [b7]
   grind
 unfold F72;simp only[aE,L,P,zM,dX,ic,fw,R];refine aw (λb=>?_) (λb=>?_)
 .simp only[iB,qo,ne_eq]at b;cases y0:xq 0 l c.dI with
  |none=>simp only[jr,Be,mU,aW];exact aB (oQ hN _ _ _ _ _) λy z=>ad (.inr ⟨z b9,trivial⟩)|some q=>simp only[dr,gh,mV,aX];rw[show xq 0 l c.name=O k from B];simp only[dr,gh,aE,C,Ax];simp_all
 .simp only[oa,gE]at b;rw[show xq 0 l c.name=O k from B];simp only[dr,gh,aE,C,Ax];simp_all
open Classical in
noncomputable def tZ (l:Z dQ) (P:bP×V Nat->Prop) (k:Nat) (e:hJ):hJ:=if∃s,P (s,O k)then hJ.mk e.au e.tu (ix l e.au.dI) e.number e.h4 e.eu e.equations e.cells e.eU e.rn e.nj else e
theorem aih(ls:Z dc)(f:iY ls)(h:Hp)(g:xf (cs ls) h):T (F30 N (O 0,ls) h) λr=>(r.1=Y/\lu (cs ls) (λ_ c=>ix (cs ls) c.dI) (λ_ c=>c) r.2/\r.2.all=[]/\∀c∈cs ls,va (cs ls) c)∨(jj r.1/\True):=by
 have v:=g.aaF;obtain⟨⟨p,e1,G⟩,e3,⟨H,w⟩,I,J,K,L,Q,R,S,U⟩:=g;generalize X:cs ls=l at*;unfold F30;simp only[aE,e1,e3,zM,ic];refine DH (eK 0 l) (q7 l 0) (λP=>((),{h with eY:=h.eY.mapIdx (tZ l P)})) ?_ ?_ ?_
 .have:h.eY.mapIdx (tZ l λ_=>False)=h.eY:=by
   apply tE
   grind [tZ]
  rw[this]
 .rintro P ⟨s,o⟩ z A B k;obtain⟨q,c,C,e⟩:=(jF l 0 _).1 A;cases e;rw[dN]at B⊢;obtain⟨a,m⟩:=w q c C;have a0:¬∃s,P (s,O q):=by
   rintro⟨s,t⟩;obtain⟨b0,c0,d0,e⟩:=(jF l 0 _).1 (z _ t)
   grind
  have hu:tZ l P q (XF c a q)=XF c a q:=by
   unfold tZ
   grind
  simp only[aE,e1,e3,zM,dX,ic,Rv,m,dr,hu,fw,cw];congr 3;refine DI _ _ _ q _ (λe b=>?_) (λj e e0 b=>?_)
  .rw[m]at b;cases b;have:∃s,(λy=>P y∨y=(c.name,O q)) (s,O q):=⟨c.name,.inr rfl⟩
   unfold tZ;rw[aq this];have u:∀o:V Nat,(Option.map O o).getD Y=o:=λo=>by cases o<;>rfl
   grind
  .have:(∃s,(λy=>P y∨y=(c.name,O q)) (s,O j))↔∃s,P (s,O j):=by grind
   unfold tZ;simp only at this;by_cases t:∃s,P (s,O j);simp_all
   grind
 .have D:lu l (λ_ c=>ix l c.dI) (λ_ c=>c) {h with eY:=h.eY.mapIdx (tZ l λx=>x∈eK 0 l)}:=v.pF _ λk c a d=>by
   have:∃s,(s,O k)∈eK 0 l:=⟨c.name,(jF l 0 _).2 ⟨k,c,d,aH⟩⟩
   unfold tZ;rw[aq this];rfl
  dsimp only;rw[Nq hN];have f0:cs ls=ls.flatMap (·.bC):=rfl;refine aB (q5 hN (λl=>l.bC) (λl=>rfl) f.len (λl E=>(f.all l E).bC) (λpre h'=>h'={h with eY:=h.eY.mapIdx (tZ l λx=>x∈eK 0 l)}/\∀c∈pre,va l c) (λ_=>True) ⟨rfl,aH⟩ λn i g0 x pre post h' _ _ h0 _ _ i0 ⟨u,j0⟩=>?_) λy k0=>?_
  .subst u;have d:l[pre.length]?=O x:=by grind
   refine ek (aif hN n i l x pre.length d _ D) λr l0=>?_
   grind
  grind [ad]
end
theorem yM:∀(n:Nat)(l:Z Nat),l.Nodup->(∀x∈l,x<n)->l.length<=n
 |0,l,_,h=>by
  cases l with
  |nil=>grind|cons x l=>exact absurd (h x aH) M
 |n+1,l,a,h=>by
  by_cases c:n∈l
  .have:=yM n (l.erase n) (a.erase n) λx b=>by grind
   grind
  .have:=yM n l a λx b=>by grind
   omega
def XG{l:Z dQ}{m:Nat}(h:l9 l (j+m) o≠Y):l9 l j o≠Y:=λe=>h (by rw[xg,e,yK])
theorem yN{l:Z dQ}(i:∀k,k<l.length->QN l k){k:Nat}(o:k<l.length):l9 l l.length (O k)=Y:=by
 cases v:l9 l l.length (O k)with
 |none=>rfl|some m=>
  exfalso;have w:∀j,j<=l.length->∃d,l9 l j (O k)=O d/\d<l.length:=λj p=>by
   have q:l9 l j (O k)≠Y:=XG (m:=l.length-j) (by grind);obtain⟨d,c⟩:=Option.ne_none_iff_exists'.1 q;refine⟨d,c,?_⟩;cases j with
   |zero=>cases c;exact o
   |succ j=>rw[s7]at c;exact yL c
  let f:Nat->Nat:=λj=>(l9 l j (O k)).getD 0;have g:∀j,j<=l.length->l9 l j (O k)=O (f j)/\f j<l.length:=λj p=>by grind
  have r:((List.range (l.length+1)).map f).Nodup:=by
   rw[Gz,List.pairwise_map];have:=List.pairwise_lt_range (n:=l.length+1);refine this.imp_of_mem ?_;intro a b s t y e;rw[uf]at s t;obtain⟨h,u⟩:=g a M;obtain⟨q1,z⟩:=g b M;have:l9 l (b-a) (O (f a))=O (f a):=by rw[<-h,<-xg,(M:a+(b-a)=b),q1,<-e,h]
   exact i (f a) u (b-a) M M this
  have:=yM l.length _ r λx A=>by grind
  grind
def hh(l:Z dQ):Nat->V Nat->Z Nat
 |0,_=>[]|_+1,Y=>[]
 |n+1,O k=>k::hh l n (EJ l (O k))
theorem mN(l:Z dQ)(n:Nat):hh l n Y=[]:=by cases n<;>rfl
theorem vc(l:Z dQ):∀(n:Nat)(o:V Nat),(hh l n o).length<=n
 |0,_=>bq _|n+1,Y=>by simp[hh]
 |n+1,O k=>by have:=vc l n (EJ l (O k));grind [hh,ie]
theorem sy{l:Z dQ}:∀{n:Nat}{o:V Nat}(m:Nat),l9 l n o=Y->hh l (n+m) o=hh l n o
 |0,o,m,h=>by
  have:o=Y:=h
  grind [mN]
 |n+1,Y,m,h=>by rw[mN,mN]|n+1,O k,m,h=>by rw[(M:n+1+m=(n+m)+1)];simp only[hh];rw[sy m (show l9 l n (EJ l (O k))=Y from h)]
theorem yO{l:Z dQ}:∀{n:Nat}{o:V Nat},(∀k,o=O k->k<l.length)->∀x∈hh l n o,x<l.length
 |0,_,_,x,a=>by cases a
 |n+1,Y,_,x,a=>by cases a
 |n+1,O k,h,x,a=>by
  rcases fb.1 a with rfl|a
  grind
  .exact yO (λk' b=>yL b) x a
theorem q8{ls:Z dc}:∀(n:Nat)(o:V Nat),(∀k,o=O k->k<(cs ls).length)->nm ls n (o.bind λk=>(cs ls)[k]?)=(hh (cs ls) n o).filterMap λk=>(cs ls)[k]?
 |0,_,_=>rfl|n+1,Y,_=>rfl
 |n+1,O k,h=>by
  have a:=h k rfl;have e:(cs ls)[k]?=O (cs ls)[k]:=cX a;simp only[aE,e,nm,hh,NE];congr 1;rw[<-q8 n _ λk' b=>yL b]
  grind [EJ,xe]
theorem lv{α β γ:Type}(f:α->V β)(g:β->Z γ):∀l:Z α,(l.filterMap f).flatMap g=l.flatMap λx=>((f x).map g).getD []
 |[]=>rfl|x::l=>by
  have:=lv f g l
  grind
section
variable{N:Nat}(hN:1073741824<=N)
include hN
theorem vd(l:Z α)(a:α->bP)(j:l.length<=136314880){J:Z bP×ab->V β}{f:(((Z bP×Int)×ab)->V β)->((Z bP×Int)×ab)->V β}
  (d:∀rec out p,f rec ((out,p),())=bif decide (p<(l.length:Int))then(ax l p).bind λz=>(dv (cF 16 (out.length+[a z].length) 140737488355328)).bind λ_=>rec ((out++[a z],IntKind.i64.wrap (p+1)),())else J (out,()))
  (k:T (J (l.map a,())) P):T (aQ f N (([],0),())) P:=by
 refine bl (λs=>0<=s.1.2/\s.1.2<=l.length/\s.1.1=(l.take s.1.2.toNat).map a) (λs=>(l.length-s.1.2).toNat) ⟨aH,aH,aH⟩ (by grind) ?_;rintro rec ⟨⟨out,p⟩,u⟩ ⟨c,e,g⟩ h;dsimp only at c e g;rw[d];have m:out.length<=l.length:=by grind
 refine aw (λb=>?_) (λb=>?_)
 .simp only[aV]at b;refine aL c b λx n i=>bO (cq dx dx) (h _ ⟨?_,?_,?_⟩ ?_)<;>dsimp only<;>rw[b7 M M]
  .omega
  .omega
  .have o:l.take (p.toNat+1)=l.take p.toNat++[x]:=by obtain⟨hi,rfl⟩:=cr.1 i;simp_all
   grind
  .omega
 grind
theorem adA{l:Z dQ}{e:Nat->dQ->dQ}{h:Hp}(d:lu l (λ_ c=>ix l c.dI) e h):∀(m n:Nat)(o:V Nat),(∀k,o=O k->k<l.length)->l9 l m o=Y->m<n->m<=1000->T (Na N n o h) λr=>r.2=h/\r.1=(hh l m o).reverse.map O
 |m,0,o,_,_,f,_=>M|m,n+1,Y,_,_,_,_=>ad ⟨rfl,by rw[mN];rfl⟩
 |0,n+1,O k,_,a,_,_=>by cases a
 |m+1,n+1,O k,b,a,f,p=>by
  obtain⟨q,he⟩:=d.eY.2 k _ (cX (b k rfl));show T (aas N (Na N n) (O k) h) _;have g:EJ l (O k)=ix l (l[k]'(b k rfl)).dI:=by simp[EJ,b k rfl]
  have i:(l9 l m (EJ l (O k)))=Y:=a;unfold aas;simp only[mV,aX,aE,he,Ax];rw[<-g];refine aB (adA d m n (EJ l (O k)) (λk' j=>yL j) i M M) λy ⟨s,t⟩=>?_
  grind [vc,bO,cq,ad,hh]
set_option maxHeartbeats 4000000 in
theorem aii(ls:Z dc)(I:iY ls)(n i:Int)(c:dQ)(k a:Nat)(m:Z (bP×dQ))(K:(cs ls)[k]?=O c)(h:Hp)(S:lu (cs ls) (λ_ c=>ix (cs ls) c.dI) (λ_ c=>c) h)(h0:∀c∈cs ls,va (cs ls) c)(i0:h.all[a]?=O m):
  T (F73 N (n,i,c,O 0,O a) h) λr=>(r.1=Y/\r.2={h with all:=h.all.set a (fV dz m c.name (mM ls c.name c))})∨(jj r.1/\r.2=h):=by
 have j0:=S;obtain⟨⟨p,e1,C0⟩,e3,⟨D0,k0⟩,E0,L,G0,H0,I0,J0,K0⟩:=S;have U:ix (cs ls) c.name=O k:=by have:=oH (i:=0) L K;grind
 have l0:k<(cs ls).length:=(cr.1 K).1;have m0:∀k',k'<(cs ls).length->QN (cs ls) k':=λk' X=>by
  obtain⟨_,G,n0,L0⟩:=h0 _ (fR X);have:G=k':=by
   have N0:=oH (i:=0) L n0;have P0:=oH (i:=0) L (cX X)
   grind
  grind
 have a0:=yN m0 l0;have o0:jP ls c.name=O c:=by rw[xe,U];exact K
 obtain⟨p0,b2,q0,Q0,R0,S0⟩:=AR ls I c.name c o0;have T0:gk ls c.name=(hh (cs ls) (cs ls).length (O k)).filterMap λq=>(cs ls)[q]?:=by
  have:=q8 (ls:=ls) 129 (O k) (λk' e=>by grind);rw[(M:129=(cs ls).length+(129-(cs ls).length)),sy _ a0,<-(M:129=(cs ls).length+(129-(cs ls).length))]at this
  grind [gk]
 generalize r0:mM ls c.name c=A at*;generalize s0:({h with all:=h.all.set a (fV dz m c.name A)}:Hp)=U0;unfold F73;simp only[aE,e1,e3,zM,dX,ic,fw];rw[show xq 0 (cs ls) c.name=O k from U];simp only[dr,gh];refine aS (λs=>s=(([],[],F,A.bd,A.aD,A.bK),h)) (λJ v=>?_) (λx z=>?_)
 .refine aB (adA hN j0 (cs ls).length N (O k) (λk' e=>by grind) a0 M M) λy ⟨t0,P⟩=>?_;generalize u0:(hh (cs ls) (cs ls).length (O k)).reverse=d at*;have X0:d.length<=128:=by grind [List.length_reverse,Nat.le_trans,vc]
  have b0:∀q∈d,q<(cs ls).length:=λq g=>yO (o:=O k) (λk' e=>by grind) q (by rw[<-u0]at g;exact List.mem_reverse.1 g);have c1:(gk ls c.name).reverse=d.filterMap λq=>(cs ls)[q]?:=by grind
  have d1:A.bd=d.flatMap λq=>(((cs ls)[q]?).map (·.bd)).getD []:=by grind [mM,xd,lv]
  have f1:A.aD=d.flatMap λq=>(((cs ls)[q]?).map (·.aD)).getD []:=by grind [mM,xd,lv]
  have g1:A.bK=d.flatMap λq=>(((cs ls)[q]?).map (·.bK)).getD []:=by grind [mM,xd,lv]
  have hsz:∀q∈d,(((cs ls)[q]?).map (·.bd)).getD []=((cs ls)[q]?.getD IT).bd/\(((cs ls)[q]?).map (·.aD)).getD []=((cs ls)[q]?.getD IT).aD/\(((cs ls)[q]?).map (·.bK)).getD []=((cs ls)[q]?.getD IT).bK/\rp ((cs ls)[q]?.getD IT):=λq g=>by rw[cX (b0 q g)];exact⟨rfl,rfl,rfl,I.cpt (fR _)⟩
  rw[t0];refine bl (λs=>0<=s.1.1/\s.1.1<=d.length/\s.1.2=([],[],F,(d.take s.1.1.toNat).flatMap (λq=>(((cs ls)[q]?).map (·.bd)).getD []),(d.take s.1.1.toNat).flatMap (λq=>(((cs ls)[q]?).map (·.aD)).getD []),(d.take s.1.1.toNat).flatMap (λq=>(((cs ls)[q]?).map (·.bK)).getD []))) (λs=>(d.length-s.1.1).toNat) ⟨aH,aH,aH⟩ (by grind) ?_;rintro rec ⟨⟨j,h1,a2,a3,a4,a5,i1⟩,u⟩ ⟨H,G,c0⟩ B;dsimp only at H G c0;cases c0;refine aw (λb=>?_) (λb=>?_)
  .simp only[aV,P,iT]at b;obtain⟨x,l1,z,C⟩:=dJ (l:=d) H b;have w0:ax y.1 j=O (O x):=by obtain⟨o1,rfl⟩:=oR H;rw[P,qf,gu];simp at C;grind
   have x0:d.take (j.toNat+1)=d.take j.toNat++[x]:=by
    obtain⟨hi,rfl⟩:=cr.1 C
    grind [xv]
   have Q:=b0 x z;obtain⟨p1,hex⟩:=k0 x _ (cX Q);have R:=I.cpt (fR Q);have E:∀q∈d.take j.toNat,q∈d:=λq g=>AY g;have q1:=ke (l:=d.take j.toNat) (f:=λq=>(((cs ls)[q]?).map (·.bd)).getD []) λq g=>by rw[(hsz q (E q g)).1];exact (hsz q (E q g)).2.2.2.bd
   have r1:=ke (l:=d.take j.toNat) (f:=λq=>(((cs ls)[q]?).map (·.aD)).getD []) λq g=>by rw[(hsz q (E q g)).2.1];exact (hsz q (E q g)).2.2.2.aD
   have s1:=ke (l:=d.take j.toNat) (f:=λq=>(((cs ls)[q]?).map (·.bK)).getD []) λq g=>by rw[(hsz q (E q g)).2.2.1];exact (hsz q (E q g)).2.2.2.bK
   have t1:(d.take j.toNat).length<=128:=dx;have v1:=R.bd;have w1:=R.aD;have x1:=R.bK;simp only[w0,aE,hex,Ax];refine bO (cq M M) (bO (cq M M) (bO (cq M M) (B _ ⟨?_,?_,?_⟩ ?_)))<;>dsimp only<;>rw[b7 M M]
   .omega
   .omega
   .rw[(M:(j+1).toNat=j.toNat+1),x0];simp[IU,cX Q]
   .omega
  .simp only[cP,kC,P,iT]at b
   grind [de]
 .subst z;dsimp only;refine aS (λs=>s.1=A.bd.map (·.name)) (λJ v=>vd hN A.bd (·.name) p0 (λ_ _ _=>rfl) (v _ rfl)) (λx z=>?_);refine aS (λs=>s.1=A.aD.map (·.role)) (λJ v=>vd hN A.aD (·.role) b2 (λ_ _ _=>rfl) (v _ rfl)) (λy0 C=>?_);refine aS (λs=>s.1=A.bK.map (·.role)) (λJ v=>vd hN A.bK (·.role) q0 (λ_ _ _=>rfl) (v _ rfl)) (λA0 d0=>?_);obtain⟨ps,y1⟩:=x;obtain⟨ks,A1⟩:=y0;obtain⟨rs,B1⟩:=A0;dsimp only at z C d0;subst z C d0;refine aS (λ_=>True) (λJ v=>?_) (λx _=>?_)
  .simp only[aE,e1,e3,zM,dX,ic,iT];have C1:(A.bd.map (·.name)).length=A.bd.length:=aH;have D1:(A.aD.map (·.role)).length=A.aD.length:=aH;have E1:(A.bK.map (·.role)).length=A.bK.length:=aH;generalize A.bd.map (·.name)=ps at*;generalize A.aD.map (·.role)=ks at*;generalize A.bK.map (·.role)=rs at*;refine bl (λs=>0<=s.1.2/\s.1.2<=3) (λs=>(3-s.1.2).toNat) ⟨aH,aH⟩ (by grind) ?_;rintro rec ⟨⟨part,kind⟩,u⟩ ⟨H,G⟩ B;dsimp only at H G;refine aw (λb=>?_) (λb=>v _ trivial);simp only[ie,za,aV]at b;refine aS (λ_=>True) (λG1 H1=>?_) (λx _=>B _ ⟨?_,?_⟩ ?_)
   .have B0:kind=0∨kind=1∨kind=2:=M;rcases B0 with rfl|rfl|rfl
    .rw[show ax [ps,ks,rs] 0=O ps from rfl];simp only[aE,dp];apply bt<;>intro b;simp only[aV]at b;refine bl (λst=>0<=st.fst.snd/\st.fst.snd<=↑ps.length) (λst=>(↑ps.length-st.fst.snd).toNat) ?_ ?_ ?_
     grind [b7]
     grind [b7]
     rintro rec ⟨⟨_,_⟩,_⟩ D B;dsimp only at D;dsimp only;obtain⟨e0,f0⟩:=D;apply a6<;>intro b;apply eZ<;>intro b;refine ay (oQ a8 _ _ _ _ _) λy w t=>ad ?_;dsimp only;rotate_left;refine bO ?_ ?_
     grind
     refine aL a8 a8 λx z C=>ay (XC a8 _ _ ?_) λy w t=>?_
     grind
     apply aw<;>intro b;refine ay (oQ a8 _ _ _ _ _) λy w t=>ad ?_;dsimp only;rotate_left;refine aS (λ_=>True) (λJ v=>?_) ?_
     grind
     rintro⟨_,_⟩ g0;apply aw<;>intro b;simp only[aV]at b;refine ay (oQ a8 _ _ _ _ _) λy w t=>ad ?_;dsimp only;rotate_left;simp only[aV]at b;apply B
     grind [b7]
     grind [b7]
     grind
     grind
     all_goals exact .inr ⟨t b9,rfl⟩
    .rw[show ax [ps,ks,rs] 1=O ks from rfl];simp only[aE,dp];apply bt<;>intro b
     grind
     apply bt<;>intro b;simp only[aV]at b;refine bl (λst=>0<=st.fst.snd/\st.fst.snd<=↑ks.length) (λst=>(↑ks.length-st.fst.snd).toNat) ?_ ?_ ?_
     grind [b7]
     grind [b7]
     rintro rec ⟨⟨_,_⟩,_⟩ D B;dsimp only at D;dsimp only;obtain⟨e0,f0⟩:=D;apply a6<;>intro b;apply eZ<;>intro b;refine ay (oQ a8 _ _ _ _ _) λy w t=>ad ?_;dsimp only;rotate_left;refine bO ?_ ?_
     grind
     refine aL a8 a8 λx z C=>ay (XC a8 _ _ ?_) λy w t=>?_
     grind
     apply aw<;>intro b;refine ay (oQ a8 _ _ _ _ _) λy w t=>ad ?_;dsimp only;rotate_left;refine aS (λ_=>True) (λJ v=>?_) ?_;apply bt<;>intro b;simp only[aV]at b
     grind [aL]
     grind
     rintro⟨_,_⟩ g0;apply aw<;>intro b;simp only[aV]at b;refine ay (oQ a8 _ _ _ _ _) λy w t=>ad ?_;dsimp only;rotate_left;simp only[aV]at b;apply B
     grind [b7]
     grind [b7]
     grind
     grind
     all_goals exact .inr ⟨t b9,rfl⟩
    .rw[show ax [ps,ks,rs] 2=O rs from rfl];simp only[aE,dp];apply bt<;>intro b
     grind
     apply bt<;>intro b
     grind
     apply bt<;>intro b;simp only[aV]at b;refine bl (λst=>0<=st.fst.snd/\st.fst.snd<=↑rs.length) (λst=>(↑rs.length-st.fst.snd).toNat) ?_ ?_ ?_
     grind [b7]
     grind [b7]
     rintro rec ⟨⟨_,_⟩,_⟩ D B;dsimp only at D;dsimp only;obtain⟨e0,f0⟩:=D;apply a6<;>intro b;apply eZ<;>intro b;refine ay (oQ a8 _ _ _ _ _) λy w t=>ad ?_;dsimp only;rotate_left;refine bO ?_ ?_
     grind
     refine aL a8 a8 λx z C=>ay (XC a8 _ _ ?_) λy w t=>?_
     grind
     apply aw<;>intro b;refine ay (oQ a8 _ _ _ _ _) λy w t=>ad ?_;dsimp only;rotate_left;refine aS (λ_=>True) (λJ v=>?_) ?_;apply bt<;>intro b
     grind
     apply bt<;>intro b;simp only[aV]at b
     grind [aL]
     grind
     rintro⟨_,_⟩ g0;apply aw<;>intro b;simp only[aV]at b;refine ay (oQ a8 _ _ _ _ _) λy w t=>ad ?_;dsimp only;rotate_left;simp only[aV]at b
     grind [b7]
     grind
     grind
     all_goals exact .inr ⟨t b9,rfl⟩
   grind [b7]
   grind [b7]
   grind [b7]
  .simp only[aE,i0];refine fj (ad (.inl ⟨rfl,?_⟩));rw[<-s0,<-r0];rfl
end
def whole(ls:Z dc)(c:dQ):bP×dQ:=(c.name,mM ls c.name c)
open Classical in
noncomputable def ve (ls:Z dc) (P:bP×dQ->Prop) (k:Nat) (e:hJ):hJ:=if P (whole ls e.au)then hJ.mk (mM ls e.au.name e.au) e.tu e.up e.number e.h4 e.eu e.equations e.cells e.eU e.rn e.nj else e
def vf{P:bP×dQ->Prop}{k:Nat}(h:¬P (whole ls e.au)):ve ls P k e=e:=ao h
def q9{P:bP×dQ->Prop}{k:Nat}(h:P (whole ls e.au)):ve ls P k e=hJ.mk (mM ls e.au.name e.au) e.tu e.up e.number e.h4 e.eu e.equations e.cells e.eU e.rn e.nj:=aq h
def Iu(f:α->β){l:Z α}(h:(l.map f).Nodup):l.Nodup:=by rw[Gz,List.pairwise_map]at h;rw[Gz];exact h.imp λ{a b}(c:f a≠f b)(e:a=b)=>c (by rw[e])
section
variable{N:Nat}(hN:1073741824<=N)
include hN
theorem aij(ls:Z dc)(o:iY ls)(h:Hp)(z:lu (cs ls) (λ_ c=>ix (cs ls) c.dI) (λ_ c=>c) h)(I:∀c∈cs ls,va (cs ls) c)(J:h.all=[]):
  T (F31 N (O 0,ls) h) λr=>(r.1=Y/\lu (cs ls) (λ_ c=>ix (cs ls) c.dI) (λ_ c=>mM ls c.name c) r.2)∨(jj r.1/\True):=by
 have m0:=z;obtain⟨⟨p,e1,s⟩,e3,⟨K,t⟩,L,a,Q,R,S,U,X⟩:=z;let St:Z dQ->Hp:=λpre=>{h with all:=[pre.map (whole ls)]}
 have A:∀pre,lu (cs ls) (λ_ c=>ix (cs ls) c.dI) (λ_ c=>c) (St pre):=λpre=>⟨⟨p,e1,s⟩,e3,⟨K,t⟩,L,a,Q,R,S,U,X⟩
 unfold F31;dsimp only;refine fj ?_;rw[Nq hN,J];have a0:cs ls=ls.flatMap (·.bC):=rfl;refine aB (q5 hN (λl=>l.bC) (λl=>rfl) o.len (λl u=>(o.all l u).bC) (λpre h'=>h'=St pre) (λh'=>∃pre post,cs ls=pre++post/\h'=St pre) rfl λn i n0 x pre post h' _ _ o0 _ _ b0 c0=>?_) λy B=>?_
 .subst c0;have C:(cs ls)[pre.length]?=O x:=by grind
  refine ek (aii hN ls o n i x pre.length 0 (pre.map (whole ls)) C _ (A pre) I rfl) λr d0=>?_;rcases d0 with⟨q1,d⟩|⟨q1,d⟩
  .refine .inl ⟨q1,?_⟩;rw[d];have e0:bp dz (pre.map (whole ls)) x.name=Y:=by rw[H8];intro e b;obtain⟨c,g,rfl⟩:=gC.1 b;intro s;rw[a0,b0]at a;rw[IW,List.nodup_append]at a;exact a.2.2 c.name (Lw g) x.name aH s
   show({h with all:=[fV dz (pre.map (whole ls)) x.name (mM ls x.name x)]}:Hp)=_;rw[Di e0];simp[St,whole]
  grind
 .have v:∃pl post,cs ls=pl++post/\y.2=St pl/\(y.1=Y->pl=cs ls):=by
   rcases B with⟨q1,d⟩|⟨⟨f,q1,_⟩,pl,post,d,p0⟩
   simp_all
   grind
  obtain⟨pl,post,q0,v,r0⟩:=v;have f0:∀c∈pl,c∈cs ls:=λc g=>by grind
  have g0:(pl.map (·.name)).Nodup:=by grind
  rw[v];simp only[aE,za];show T ((([pl.map (whole ls)])[0]?).bind _) _;simp only[ic,aE];refine DH (pl.map (whole ls)) ?_ (λP=>((),{St pl with eY:=h.eY.mapIdx (ve ls P)})) ?_ ?_ ?_
  .have:((pl.map (whole ls)).map Prod.fst).Nodup:=by rw[AW];exact g0
   exact Iu _ this
  .have:h.eY.mapIdx (ve ls λ_=>False)=h.eY:=by apply tE;intro j;rw[Rv];cases h.eY[j]?<;>simp[ve]
   rw[this]
  .rintro P x s0 h0 i0 k;obtain⟨c,g,rfl⟩:=gC.1 h0;obtain⟨q,t0,u0⟩:=hB (f0 c g);have D:(cs ls)[q]?=O c:=by grind
   obtain⟨w,E⟩:=t q c D;have j0:xq 0 (cs ls) c.name=O q:=by have:=oH (i:=0) a D;grind
   have k0:ve ls P q (Ax (λ_ c=>ix (cs ls) c.dI) (λ_ c=>c) c w q)=Ax (λ_ c=>ix (cs ls) c.dI) (λ_ c=>c) c w q:=vf i0;simp only[St,aE,e1,e3,zM,dX,ic,fw,cw,whole,j0,dr,gh,Rv,E,k0];congr 3;refine DI _ _ _ q _ (λe b=>?_) (λj e w0 b=>?_)
   .rw[E]at b;cases b;rw[q9 (by exact Or.inr rfl)];simp only[Ax]
   .have G:j<(cs ls).length:=by grind
    obtain⟨x0,H⟩:=t j _ (cX G);rw[b]at H;cases H;have l0:whole ls (cs ls)[j]≠(c.name,mM ls c.name c):=λe=>by
     have e:((cs ls)[j]).name=c.name:=(pz e).1;have y0:=oH (i:=0) a (cX G)
     grind
    by_cases m:P (whole ls (cs ls)[j])
    .rw[q9 m,q9 (by exact Or.inl m)]
    .rw[vf m,vf];rintro(h|h)
     .exact m h
     .exact l0 h
  .refine ad ?_;rcases B with⟨q1,_⟩|⟨q1,_⟩
   .refine .inl ⟨q1,?_⟩;have:=(A pl).pF (up':=λ_ c=>ix (cs ls) c.dI) (cc':=λ_ c=>mM ls c.name c) (ve ls λx=>x∈pl.map (whole ls)) λk c w C=>by have u:whole ls c∈pl.map (whole ls):=Lw (by grind);rw[q9 (by exact u)];rfl
    exact this
   grind
end
structure rq{β:Type}(br:List (Option (List β)))(sl:Nat->Option (Nat×Nat))(n B:Nat):Prop where
 at':∀k,k<n->∃l,gH br (sl k)=O l/\l.length<=B
 lt:∀k p,k<n->sl k=O p->p.1<br.length
 inj:∀k k' p p',k<n->k'<n->sl k=O p->sl k'=O p'->p.1=p'.1->k=k'
theorem mq(a:Z (V (Z β)))(p:V (Nat×Nat)):(iK a p).length=a.length:=by
 cases p with
 |none=>rfl|some p=>simp[iK]
theorem rq.push {c:Z (V (Z β))} {B:Nat} (h:rq c sl n B) {k:Nat} (t:k<n) {l:Z β} (w:gH c (sl k)=O l) (y:l.length<=B) (x:β):
  rq (iK c (sl k)++[O (l++[x])]) (λj=>if j=k then O ((iK c (sl k)).length,(l++[x]).length)else sl j) n (B+1):=by
 refine⟨λj b=>?_,λj p b a=>?_,λj f p r b s a d e=>?_⟩
 .by_cases e:j=k
  .rw[aq e];exact⟨_,Np _ _ aH,dx⟩
  .rw[ao e];obtain⟨l',m,z⟩:=h.at' j b;refine⟨l',?_,M⟩;cases g:sl j with
   |none=>rw[g]at m;exact m|some p=>
    rw[g]at m;have u:=h.lt j p b g;have:e8 (iK c (sl k)++[O (l++[x])]) p.1=e8 c p.1:=by
     unfold e8;rw[oU (by rw[mq];exact u)];cases v:sl k with
     |none=>rfl|some q=>
      have A:q.1≠p.1:=λe'=>e (h.inj k j q p t b v g e').symm
      grind [iK,List.getElem?_set_ne]
    grind [gH]
 .by_cases e:j=k
  grind
  .simp only[ao e]at a;have:=h.lt j p b a;simp[mq];omega
 .by_cases o:j=k
  .by_cases i:f=k
   .omega
   .simp only[aq o]at a;simp only[ao i]at d;cases a;have:=h.lt f r s d
    grind [mq]
  .by_cases i:f=k
   .simp only[ao o]at a;simp only[aq i]at d;cases d;have:=h.lt j p b a
    grind [mq]
   .simp only[ao o]at a;simp only[ao i]at d;exact h.inj j f p r b s a d e
def rq.none {a:Z (V (Z β))}:rq a (λ_=>Option.none) n 0:=⟨λk _=>⟨[],rfl,bq _⟩,λk p _ h=>(by cases h),λk k' p b _ _ h=>(by cases h)⟩
theorem rq.mono {a:Z (V (Z β))} {B:Nat} (h:rq a sl n B) (c:B<=B'):rq a sl n B':=⟨λk b=>by obtain ⟨l,d,e⟩:=h.at' k b;grind,h.lt,h.inj⟩
structure KR(ls:List dc)(k:Nat)(c:dQ)(e:hJ):Prop where
 au:e.au=mM ls c.name c
 up:e.up=ix (cs ls) c.dI
 number:e.number=k
 h4:e.h4=O k
structure fI(ls:List dc)(B:Nat)(h:Hp):Prop where
 fP:∃p,h.fP=[zM p]/\XD h.vx p ((cs ls).map (·.name))
 jU:h.jU=[eK 0 (cs ls)]
 kN:((cs ls).map (·.name)).Nodup
 len:(cs ls).length<=128
 zP:h.zP.length=(cs ls).length
 eY:h.eY.length=(cs ls).length
 Uy:∃slR slE,rq h.FX slR (cs ls).length B/\rq h.Ie slE (cs ls).length B/\∀k c,(cs ls)[k]?=O c->∃e,h.eY[k]?=O e/\KR ls k c e/\e.eu=slR k/\e.equations=slE k
 jn:h.jn=[]
 oe:True
theorem fI.mono {B:Nat} {h:Hp} (a:fI ls B h) (b:B<=B'):fI ls B' h:=by obtain⟨c,d,e,f,g⟩:=a.Uy;exact⟨a.fP,a.jU,a.kN,a.len,a.zP,a.eY,⟨c,d,e.mono b,f.mono b,g⟩,a.jn,a.oe⟩
def lu.Qa {h:Hp} (a:lu (cs ls) (λ_ c=>ix (cs ls) c.dI) (λ_ c=>mM ls c.name c) h):fI ls 0 h:=⟨a.fP,a.jU,a.kN,a.len,by rw[a.zP];simp,a.eY.1,⟨λ_=>Y,λ_=>Y,.none,.none,λk c b=>by obtain ⟨e,d⟩:=a.eY.2 k c b;exact ⟨_,d,⟨rfl,rfl,rfl,rfl⟩,rfl,rfl⟩⟩,a.jn,a.oe⟩
theorem fI.set {B:Nat} {h:Hp} (a:fI ls B h) {k:Nat} (q:k<(cs ls).length) {e':hJ} (f:h'.fP=h.fP) (g:h'.vx=h.vx) (i:h'.jU=h.jU) (l:h'.zP.length=h.zP.length) (m:h'.jn=h.jn) (r:True=True) (n:h'.eY=h.eY.set k e')
  {b d slR' slE':Nat->V (Nat×Nat)} (s:∀k c,(cs ls)[k]?=O c->∃e,h.eY[k]?=O e/\KR ls k c e/\e.eu=b k/\e.equations=d k)
  (o:rq h'.FX slR' (cs ls).length B') (p:rq h'.Ie slE' (cs ls).length B') (t:e'.eu=slR' k) (u:e'.equations=slE' k) (v:∀j,j≠k->slR' j=b j) (w:∀j,j≠k->slE' j=d j) (x:∀c,(cs ls)[k]?=O c->KR ls k c e'):fI ls B' h':=
 ⟨by rw[f,g];exact a.fP,by rw[i];exact a.jU,a.kN,a.len,by rw[l];exact a.zP,by rw[n];simpa using a.eY,⟨slR',slE',o,p,λj c y=>by grind⟩,by rw[m];exact a.jn,trivial⟩
section
variable{N:Nat}(hN:1073741824<=N)
include hN
theorem aik(a b c d:Int):T (F80 N (a,b,c,d)) λr=>(a=0->r=Y)/\(a≠0->jj r):=by unfold F80;refine aw (λh=>ad ⟨λ_=>rfl,λh'=>absurd (by grind) h'⟩) λh=>aB (oQ hN _ _ _ _ _) λy e=>ad ⟨λh'=>by grind,e⟩
theorem adB(x y:rz):T (aat N (x,y)) λ_=>True:=⟨_,rfl,trivial⟩
theorem adC(x:gR)(y:rz):T (aau N (x,y)) λ_=>True:=⟨_,rfl,trivial⟩
theorem ail(ls:Z dc)(K:iY ls)(r:rz)(B:Nat)(L:B<=268435456)(h:Hp)(g:fI ls B h):T (F81 N (O 0,r) h) λy=>fI ls (B+1) y.2:=by
 have a:=g;obtain⟨⟨p,i,w⟩,m,P,Q,R,S,⟨n,U,o,z,q⟩,X,a0⟩:=g;unfold F81;simp only[aE,i,m,zM,dX,ic,fw];cases A:xq 0 (cs ls) r.au with
 |none=>exact ad (a.mono M)|some k=>
  obtain⟨f,c,s,b0⟩:=DG A;obtain⟨e,t,b,C,D⟩:=q k c s;simp only[dr,gh,mV,aX,aE,t];refine aw (λE=>?_) (λE=>?_)
  .obtain ⟨l,u,G⟩:=o.at' k f;simp only[C,u,aE];refine aB (YF hN l _ M λx _=>adB hN x r) λy H=>aw (λ_=>ad (a.mono M)) λ_=>bO (cq dx dx) (fj (bO aH (fj ?_)));simp only[t,aE];refine fj (ad ?_);refine a.set (k:=k) f i.symm rfl m.symm rfl rfl rfl rfl q (o.push f u G r) (z.mono M) (slR':=λj=>if j=k then O ((iK h.FX (n k)).length,(l++[r]).length)else n j) aH D (λj I=>ao I) (λ_ _=>rfl) λc0 v=>?_;rw[s]at v;cases v;exact⟨b.au,b.up,b.number,b.h4⟩
  .have d0:e.au.bK.length<=136314880:=by
    rw[b.au]
    grind [jP,u9,bW,AR]
   refine aB (Uv hN e.au.bK _ M λx _=>adC hN x r) λy H=>aw (λ_=>ad (a.mono M)) λ_=>?_;have J:k<h.zP.length:=M;simp only[b.h4,dX,cX J,aE];refine aw (λ_=>ad (a.mono M)) λ_=>fj (ad ?_);have d:=a.mono (B':=B+1) M;exact⟨⟨p,rfl,w⟩,rfl,d.kN,d.len,by grind,d.eY,d.Uy,d.jn,d.oe⟩
theorem aim(ls:Z dc)(a:iY ls)(n i:Int)(r:rz)(q:Int)(B:Nat)(b:B<=268435456)(h:Hp)(c:fI ls B h):T (F79 N (n,i,r,O 0,q) h) λy=>(y.1=Y/\fI ls (B+1) y.2)∨(jj y.1/\True):=by
 unfold F79;refine aB (ail hN ls a r B b h c) λy d=>aB (aik hN _ _ _ _) λz e=>ad ?_
 grind
theorem aaG(ls:Z dc)(f:dc->V (Z rz))(g:(Int×Int×rz)->Hp->V ((V h9)×Hp))(h:Hp):F77 N (ls,f,g) h=DD N ls f g h:=rfl
theorem aaH(ls:Z dc)(f:dc->V (Z dA))(g:(Int×Int×dA)->Hp->V ((V h9)×Hp))(h:Hp):F83 N (ls,f,g) h=DD N ls f g h:=rfl
theorem aaI(ls:Z dc)(f:dc->V (Z eV))(g:(Int×Int×eV)->Hp->V ((V h9)×Hp))(h:Hp):F88 N (ls,f,g) h=DD N ls f g h:=rfl
theorem aaJ(ls:Z dc)(f:dc->V (Z cR))(g:(Int×Int×cR)->Hp->V ((V h9)×Hp))(h:Hp):F93 N (ls,f,g) h=DD N ls f g h:=rfl
theorem ain(ls:Z dc)(a:iY ls)(l:dc)(c:l∈ls)(q:Int)(B:Nat)(j:B<=267386880)(h:Hp)(d:fI ls B h):T (F76 N ([l],O 0,q) h) λy=>(y.1=Y/\fI ls (B+1048576) y.2)∨(jj y.1/\True):=by
 have e:=(a.all l c).eu;unfold F76;dsimp only;rw[aaG hN];refine aB (q5 hN (λl=>l.eu) (λl=>rfl) aH (λl' k=>by grind) (λpre h=>fI ls (B+pre.length) h) (λ_=>True) d λn i m x pre post h' _ _ o _ _ p f=>?_) λy b=>ad ?_
 .have:(pre++x::post).length<=1048576:=by grind
  simp only[jf,ie]at this;refine ek (aim hN ls a n i x q (B+pre.length) M h' f) λr e=>?_
  grind
 .rcases b with⟨q1,g⟩|b
  .exact .inl ⟨q1,g.mono dx⟩
  grind
theorem adD(l:Z Int)(a:l.length<=1048576):T (aav N l) λr=>r=l:=su M M
theorem aio(l:Z Cell)(a:l.length<=1048576):T (F91 N l) λr=>r=l:=su M M
theorem aip(l:Z w7)(a:l.length<=1048576):T (F96 N l) λr=>r=l:=su M M
theorem adE(l:Z l7)(h:l.length<=1048576)(b:∀s∈l,u6 s):T (Uc N l) λ_=>True:=by
 have i:=λs c=>(b s c).args;unfold Uc;refine aS (λ_=>True) (λJ d=>?_) (λx _=>ad trivial);refine bl (λs=>0<=s.1.2/\s.1.2<=l.length/\(s.1.1.length:Int)=s.1.2) (λs=>(l.length-s.1.2).toNat) ⟨aH,aH,aH⟩ (by grind) ?_;rintro rec ⟨⟨out,p⟩,u⟩ ⟨e,f,g⟩ j;dsimp only at e f g;refine aw (λa=>?_) (λa=>d _ trivial);simp only[aV]at a
 grind [aL,aB,adD,bO,cq,b7]
theorem aiq(q:dA)(a:QL q):T (F86 N q) λ_=>True:=by
 obtain⟨b,c,d,e,f⟩:=a
 grind [F86,ay,adE,ad]
theorem air(ls:Z dc)(K:iY ls)(n i:Int)(r:dA)(x:QL r)(q:Int)(B:Nat)(L:B<=268435456)(h:Hp)(d:fI ls B h):T (F85 N (n,i,r,O 0,q) h) λy=>(y.1=Y/\fI ls (B+1) y.2)∨(jj y.1/\True):=by
 have A:=d;obtain⟨⟨p,f,P⟩,g,Q,R,S,U,⟨X,m,C,o,s⟩,a0,b0⟩:=d;unfold F85;simp only[aE,f,g,zM,dX,ic,fw];cases D:xq 0 (cs ls) r.au with
 |none=>simp only[jr,Be,mU,aW];exact aB (oQ hN _ _ _ _ _) λy E=>ad (.inr ⟨E b9,trivial⟩)|some k=>obtain⟨b,c,t,c0⟩:=DG D;obtain⟨e,u,a,G,H⟩:=s k c t;obtain⟨l,v,I⟩:=o.at' k b;simp only[dr,gh,mV,aX,aE,u];refine aB (aiq hN r x) λz _=>?_;simp only[H,v,aE];refine bO (cq dx dx) (fj (bO aH (fj ?_)));simp only[u,aE];refine fj (ad (.inl ⟨rfl,?_⟩));refine A.set (k:=k) b f.symm rfl g.symm rfl rfl rfl rfl s (C.mono M) (o.push b v I z) (slE':=λj=>if j=k then O ((iK h.Ie (m k)).length,(l++[z]).length)else m j) G aH (λ_ _=>rfl) (λj J=>ao J) λd0 w=>?_;rw[t]at w;cases w;exact⟨a.au,a.up,a.number,a.h4⟩
theorem ais(ls:Z dc)(a:iY ls)(l:dc)(b:l∈ls)(q:Int)(B:Nat)(o:B<=267386880)(h:Hp)(e:fI ls B h):T (F82 N ([l],O 0,q) h) λy=>(y.1=Y/\fI ls (B+1048576) y.2)∨(jj y.1/\True):=by
 have f:=(a.all l b).equations;unfold F82;dsimp only;rw[aaH hN];refine aB (q5 hN (λl=>l.equations) (λl=>rfl) aH (λl' p=>by grind) (λpre h=>fI ls (B+pre.length) h) (λ_=>True) e λn i g x pre post h' _ _ s c j t k=>?_) λy d=>ad ?_
 .have:(pre++x::post).length<=1048576:=by grind
  simp only[jf,ie]at this;simp at c;subst c;refine ek (air hN ls a n i x ((a.all g b).Uw x j) q (B+pre.length) M h' k) λr f=>?_
  grind
 .rcases d with⟨q1,m⟩|d
  .exact .inl ⟨q1,m.mono dx⟩
  grind
theorem ait(ls:Z dc)(E:iY ls)(n i:Int)(r:eV)(o:r.cells.length<=1048576)(q:Int)(B:Nat)(h:Hp)(d:fI ls B h):T (F90 N (n,i,r,O 0,q) h) λy=>(y.1=Y/\fI ls B y.2)∨(jj y.1/\True):=by
 have s:=d;obtain⟨⟨p,f,G⟩,g,H,I,J,K,⟨L,P,t,u,j⟩,Q,R⟩:=d;unfold F90;simp only[aE,f,g,zM,dX,ic,fw];cases v:xq 0 (cs ls) r.au with
 |none=>simp only[jr,Be,mU,aW];exact aB (oQ hN _ _ _ _ _) λy b=>ad (.inr ⟨b b9,trivial⟩)|some k=>obtain⟨w,c,l,S⟩:=DG v;obtain⟨e,x,a,A,C⟩:=j k c l;have D:k<h.eY.length:=M;simp only[dr,gh,mV,aX,aE,x];refine aw (λ_=>aB (oQ hN _ _ _ _ _) λy b=>ad (.inr ⟨b b9,trivial⟩)) λ_=>aB (aio hN r.cells o) λz _=>fj ?_;simp only[tG D,aE,cw,List.set_set];refine ad (.inl ⟨rfl,?_⟩);refine s.set (k:=k) w f.symm rfl g.symm rfl rfl rfl rfl j t u A C (λ_ _=>rfl) (λ_ _=>rfl) λU m=>?_;rw[l]at m;cases m;exact⟨a.au,a.up,a.number,a.h4⟩
theorem aiu(ls:Z dc)(E:iY ls)(n i:Int)(r:cR)(o:r.eU.length<=1048576)(q:Int)(B:Nat)(h:Hp)(d:fI ls B h):T (F95 N (n,i,r,O 0,q) h) λy=>(y.1=Y/\fI ls B y.2)∨(jj y.1/\True):=by
 have s:=d;obtain⟨⟨p,f,G⟩,g,H,I,J,K,⟨L,P,t,u,j⟩,Q,R⟩:=d;unfold F95;simp only[aE,f,g,zM,dX,ic,fw];cases v:xq 0 (cs ls) r.au with
 |none=>simp only[jr,Be,mU,aW];exact aB (oQ hN _ _ _ _ _) λy b=>ad (.inr ⟨b b9,trivial⟩)|some k=>obtain⟨w,c,l,S⟩:=DG v;obtain⟨e,x,a,A,C⟩:=j k c l;have D:k<h.eY.length:=M;simp only[dr,gh,mV,aX,aE,x];refine aw (λ_=>aB (oQ hN _ _ _ _ _) λy b=>ad (.inr ⟨b b9,trivial⟩)) λ_=>aB (aip hN r.eU o) λz _=>fj ?_;simp only[tG D,aE,cw,List.set_set];refine ad (.inl ⟨rfl,?_⟩);refine s.set (k:=k) w f.symm rfl g.symm rfl rfl rfl rfl j t u A C (λ_ _=>rfl) (λ_ _=>rfl) λU m=>?_;rw[l]at m;cases m;exact⟨a.au,a.up,a.number,a.h4⟩
theorem aiv(ls:Z dc)(a:iY ls)(l:dc)(b:l∈ls)(q:Int)(B:Nat)(h:Hp)(d:fI ls B h):T (F87 N ([l],O 0,q) h) λy=>(y.1=Y/\fI ls B y.2)∨(jj y.1/\True):=by have k:=(a.all l b).eL;unfold F87;dsimp only;rw[aaI hN];refine aB (q5 hN (λl=>l.eL) (λl=>rfl) aH (λl' m=>by grind) (λpre h=>fI ls B h) (λ_=>True) d λn i e x pre post h' _ _ o c f p g=>?_) λy j=>ad j;simp at c;subst c;exact ait hN ls a n i x ((a.all e b).ah0 x f) q B h' g
theorem aiw(ls:Z dc)(a:iY ls)(l:dc)(b:l∈ls)(q:Int)(B:Nat)(h:Hp)(d:fI ls B h):T (F92 N ([l],O 0,q) h) λy=>(y.1=Y/\fI ls B y.2)∨(jj y.1/\True):=by have k:=(a.all l b).c7;unfold F92;dsimp only;rw[aaJ hN];refine aB (q5 hN (λl=>l.c7) (λl=>rfl) aH (λl' m=>by grind) (λpre h=>fI ls B h) (λ_=>True) d λn i e x pre post h' _ _ o c f p g=>?_) λy j=>ad j;simp at c;subst c;exact aiu hN ls a n i x ((a.all e b).ah1 x f) q B h' g
theorem aix(ls:Z dc)(c:iY ls)(r:ls.length<=128)(h:Hp)(t:fI ls 0 h):T (F32 N (O 0,ls) h) λy=>(y.1=Y/\fI ls 268435456 y.2)∨(jj y.1/\True):=by
 unfold F32;refine aS (λs=>fI ls 268435456 s.2) (λJ i=>?_) (λx j=>ad (.inl ⟨rfl,j⟩));refine bl (λs=>0<=s.1/\s.1<=ls.length/\fI ls (s.1.toNat*2097152) s.2) (λs=>(ls.length-s.1).toNat) ⟨aH,aH,by grind⟩ (by grind) ?_;rintro rec ⟨p,k⟩ ⟨g,m,e⟩ n;dsimp only at g m e;refine aw (λf=>?_) (λf=>i _ (e.mono M));simp only[aV]at f;rw[b7 M M];obtain⟨l,u,d,o⟩:=dJ g f;have q:(ls.take ((p+1).toNat)).drop p.toNat=[l]:=by obtain⟨hi,rfl⟩:=cr.1 o;rw[(M:(p+1).toNat=p.toNat+1),<-xv hi,List.drop_append_of_le_length (by grind),EV (by grind)];rfl
 rw[q];refine bO dx (aB (ain hN ls c l d p (p.toNat*2097152) M k e) λy a=>?_);rcases a with⟨q1,b⟩|⟨q1,_⟩
 .rw[q1];refine aB (ais hN ls c l d p _ M _ b) λy a=>?_;rcases a with⟨q1,b⟩|⟨q1,_⟩
  .rw[q1];refine aB (aiv hN ls c l d p _ _ b) λy a=>?_;rcases a with⟨q1,b⟩|⟨q1,_⟩
   .rw[q1];refine aB (aiw hN ls c l d p _ _ b) λy a=>?_;rcases a with⟨q1,b⟩|⟨q1,_⟩
    .rw[q1];refine n _ ⟨?_,?_,?_⟩ ?_<;>dsimp only
     .omega
     .omega
     grind
     .omega
    .rw[q1.some];exact ad (.inr ⟨q1,trivial⟩)
   .rw[q1.some];exact ad (.inr ⟨q1,trivial⟩)
  .rw[q1.some];exact ad (.inr ⟨q1,trivial⟩)
 .rw[q1.some];exact ad (.inr ⟨q1,trivial⟩)
end
def s8(ls:Z dc):Z bP:=ln ((cs ls).map (·.name))
theorem Ga(l:Z bP):(ln l).length=l.length:=by simp[ln]
def ua(r:dP)(b:Nat):aa:=if b<64 then Nat.testBit r.e0.toNat b else Nat.testBit r.e1.toNat (b-64)
def Uz(l:Z dQ)(c:Z dP):Prop:=c.length=l.length/\∀a r,c[a]?=O r->0<=r.e0/\r.e0<18446744073709551616/\0<=r.e1/\r.e1<18446744073709551616/\∀b,b<l.length->ua r b=decide (b∈hh l l.length (O a))
structure yP(ls:List dc)(h:Hp):Prop where
 fP:∃t,h.fP=[t]/\t.pH=O 0/\XD h.vx t.rm (s8 ls)/\((t.ready.done.v=0/\t.ready.m.mu.w5=0)∨
  (t.ready.done.v≠0/\(0<(cs ls).length->∃i rows,t.bits=O (i,rows.length)/\e8 h.jn i=O rows/\Uz (cs ls) rows)))
 jU:h.jU=[eK 0 (cs ls)]
 kN:((cs ls).map (·.name)).Nodup
 len:(cs ls).length<=128
 eY:∀k c,(cs ls)[k]?=O c->∃e,h.eY[k]?=O e/\KR ls k c e
 yQ:∀k,k<(cs ls).length->QN (cs ls) k
 named:∀c∈cs ls,c.name≠[]
section
variable{N:Nat}(hN:1073741824<=N)
include hN
structure aaK(h:Hp):Prop where
 fP:h.fP=[]
 eY:h.eY=[]
 jU:h.jU=[]
 zP:h.zP=[]
 vx:h.vx=[]
 FX:h.FX=[]
 Ie:h.Ie=[]
 all:h.all=[]
 jn:h.jn=[]
theorem aiy(ls:Z dc)(g:iY ls)(h:Hp)(x:aaK h):T (F13 N ls h) λr=>(r.1.2.ka≠0/\True)∨(r.1=(O 0,h9.mk 0 0 0 0)/\yP ls r.2):=by
 have fail:∀{r:V h9}{h:Hp},jj r->T (bif !r.isNone then r.bind λy=>O (((Y:V Nat),y),h)else Y) λr=>(r.1.2.ka≠0/\True)∨(r.1=(O 0,h9.mk 0 0 0 0)/\yP ls r.2):=by rintro r h ⟨f,rfl,b⟩;exact ad (.inl ⟨b,trivial⟩)
 obtain⟨m,j,l,q,z,A,B,C,D⟩:=x;unfold F13;simp only[m,l,pw,za];refine fj (fj (aB (aib hN _ ls g) λy d=>?_));rcases d with⟨rfl,E,s⟩|⟨f,rfl,b⟩
 .simp only[mU,fQ,aX];have G:xf [] ({h with fP:=[zM Y],jU:=[[]]}:Hp):=
   ⟨⟨Y,rfl,rfl⟩,rfl,⟨by grind,λk c h=>by cases h⟩,q,aH,aH,A,B,C,D,trivial⟩
  refine aB (aie hN ls g _ G) λy d=>?_;rcases d with⟨q1,a⟩|⟨⟨f,q1,b⟩,_⟩
  .rw[q1];simp only[mU,fQ,aX];refine aB (aih hN ls g _ a) λy d=>?_;rcases d with⟨q1,a,H,t⟩|⟨⟨f,q1,b⟩,_⟩
   .rw[q1];simp only[mU,fQ,aX];refine aB (aij hN ls g _ a t H) λy d=>?_;rcases d with⟨q1,a⟩|⟨⟨f,q1,b⟩,_⟩
    .rw[q1];simp only[mU,fQ,aX];refine aB (aix hN ls g E _ a.Qa) λy d=>?_;rcases d with⟨q1,a⟩|⟨⟨f,q1,b⟩,_⟩
     .rw[q1];simp only[mU,fQ,aX,aE];have u:∀k,k<(cs ls).length->QN (cs ls) k:=λk o=>by
       obtain⟨_,I,j,l⟩:=t _ (fR o);have:I=k:=by
        have q:=oH (i:=0) a.kN j;have z:=oH (i:=0) a.kN (cX o)
        grind
       grind
      obtain⟨p,e1,v⟩:=a.fP;obtain⟨P,Q,_,_,R⟩:=a.Uy;have w:∀k c,(cs ls)[k]?=O c->∃e,y.2.eY[k]?=O e/\KR ls k c e:=λk c o=>by grind
      show T ((y.2.fP[0]?).bind _) _;rw[e1];simp only[ic,aE,zM];cases p with
      |none=>
       have J:(cs ls).map (·.name)=[]:=v;refine ad (.inr ⟨rfl,⟨_,e1,rfl,?_,.inl ⟨rfl,rfl⟩⟩,a.jU,a.kN,a.len,w,u,s⟩);show s8 ls=[]
       unfold s8;rw[J];simp[ln]
      |some p=>
       obtain⟨i,n⟩:=p;obtain⟨m,j,l⟩:=v;have h0:0<n:=by grind
       have S:n<=128:=by have:=a.len;grind
       have K:dv (Nat.beq n ((cs ls).map (·.name)).length&&(Nat.blt 0 n&&Nat.blt n 4611686018427387904))=O ():=lj (by grind [Nat.beq,cs,Nat.beq_refl,Nat.blt,xw]);show T ((F33 N (O (i,n)) y.2).bind _) _;simp only[F33,m,aE,K];refine ad (.inr ⟨rfl,⟨_,e1,rfl,?_,.inl ⟨rfl,rfl⟩⟩,a.jU,a.kN,a.len,w,u,s⟩);have L:i<y.2.vx.length:=by grind [e8,cr]
       refine⟨by simp[e8,L,s8],by rw[j];simp[s8,Ga],λe=>l ?_⟩;have:=bN List.length e
       grind [s8,Ga]
     .rw[q1];exact fail ⟨f,rfl,b⟩
    .rw[q1];exact fail ⟨f,rfl,b⟩
   .rw[q1];exact fail ⟨f,rfl,b⟩
  .rw[q1];exact fail ⟨f,rfl,b⟩
 .exact fail ⟨f,rfl,b⟩
end
theorem DJ{x:Int}(h0:0<=x)(a:x<18446744073709551616):IntKind.u64.wrap x=x:=by grind [IntKind.wrap,IntKind.bits,IntKind.signed]
def KS(x:Int)(k:Nat):Int:=IntKind.u64.wrap ((BitVec.ofInt IntKind.u64.bits x|||BitVec.ofInt IntKind.u64.bits (IntKind.u64.wrap (1*2^(min k IntKind.u64.bits)))).toNat)
def UB(k:Nat):(2:Int)^k=((2^k:Nat):Int):=(Int.natCast_pow 2 k).symm
theorem yR(h:n<18446744073709551616):(BitVec.ofInt IntKind.u64.bits (n:Int)).toNat=n:=by rw[BitVec.toNat_ofInt];show((n:Int)%((2^64:Nat):Int)).toNat=n;omega
theorem Iv{x:Int}(h0:0<=x)(e:x<18446744073709551616){k:Nat}(a:k<64):KS x k=((x.toNat|||2^k:Nat):Int):=by
 have b:2^k<2^64:=Nat.pow_lt_pow_right b9 a;obtain⟨n,rfl⟩:=oR h0;have c:n<2^64:=M;have f:n|||2^k<2^64:=Nat.or_lt_two_pow c b;have d:min k IntKind.u64.bits=k:=Nat.min_eq_left (by show k<=64;omega);unfold KS;rw[d,UB,Int.one_mul,hx]
 grind [DJ,BitVec.toNat_or,yR]
theorem Pf{x:Int}(h0:0<=x)(e:x<18446744073709551616){k:Nat}(f:k<64):
  (IntKind.u64.wrap ((BitVec.ofInt IntKind.u64.bits (x.fdiv (2^(min k IntKind.u64.bits)))&&&BitVec.ofInt IntKind.u64.bits 1).toNat)==1)=Nat.testBit x.toNat k:=by
 have a:min k IntKind.u64.bits=k:=Nat.min_eq_left (by show k<=64;omega);rw[a];obtain⟨n,rfl⟩:=oR h0;have b:n<18446744073709551616:=M;have c:(n:Int).fdiv (2^k)=((n/2^k:Nat):Int):=by grind
 rw[c];have d:n/2^k<18446744073709551616:=Nat.lt_of_le_of_lt (Nat.div_le_self _ _) b;rw[hx,Nat.testBit_eq_decide_div_mod_eq];generalize n/2^k=q at*;have g:(BitVec.ofInt IntKind.u64.bits (q:Int)&&&BitVec.ofInt IntKind.u64.bits 1).toNat=q%2:=by rw[BitVec.toNat_and,yR d,show(1:Int)=((1:Nat):Int)from rfl,yR b9,Nat.and_one_is_mod]
 grind [DJ]
def Ay(r:dP)(b:Nat):dP:=if b<64 then dP.mk (KS r.e0 (b%64)) r.e1 else dP.mk r.e0 (KS r.e1 (b%64))
def Gb(r:dP):Prop:=0<=r.e0/\r.e0<18446744073709551616/\0<=r.e1/\r.e1<18446744073709551616
def YP{x:Int}(h0:0<=x)(b:x<18446744073709551616){k:Nat}(a:k<64):0<=KS x k/\KS x k<18446744073709551616:=by rw[Iv h0 b a];have c:2^k<2^64:=Nat.pow_lt_pow_right b9 a;have d:x.toNat<2^64:=M;have:=Nat.or_lt_two_pow d c;omega
def XH(h:Gb r)(b:Nat):Gb (Ay r b):=by
 obtain⟨d,e,f,g⟩:=h;have i:b%64<64:=ui _ b9;unfold Ay;split
 .obtain ⟨a,c⟩:=YP d e i;exact⟨a,c,f,g⟩
 .obtain ⟨a,c⟩:=YP f g i;exact⟨d,e,a,c⟩
theorem UC(h:Gb r){b c:Nat}(j:b<128)(k:c<128):ua (Ay r b) c=(ua r c||decide (c=b)):=by
 obtain⟨d,e,f,g⟩:=h;have a:b%64<64:=ui _ b9;unfold Ay ua;by_cases i:b<64<;>by_cases e2:c<64<;>simp only[i,e2,cm,cA]
 .rw[Iv d e a,hx,Nat.testBit_or,Nat.testBit_two_pow]
  grind
 grind
 grind
 .rw[Iv f g a,hx,Nat.testBit_or,Nat.testBit_two_pow]
  grind
theorem YQ{r:dP}(h:Gb r):∀(l:Z Nat),(∀x∈l,x<128)->Gb (l.foldl Ay r)/\∀c,c<128->ua (l.foldl Ay r) c=(ua r c||decide (c∈l))
 |[],_=>⟨h,λc _=>aH⟩|b::l,a=>by
  obtain⟨e,f⟩:=YQ (XH h b) l λx d=>a x (by simp[d])
  grind [UC,Bool.or_assoc]
def Gc(l:Z dQ)(a:Nat):dP:=(hh l l.length (O a)).foldl Ay ⟨0,0⟩
open Classical in
noncomputable def mO (l:Z dQ) (P:bP×V Nat->Prop):Z dP:=(List.range l.length).map λa=>if∃s,P (s,O a)then Gc l a else⟨0,0⟩
theorem Ge(l:Z dQ)(P:bP×V Nat->Prop):(mO l P).length=l.length:=by simp[mO]
def UD{b:Nat}(h:b<128):IntKind.i64.wrap ((b:Int).tdiv 64)=if b<64 then 0 else 1:=by
 have:(b:Int).tdiv 64=((b/64:Nat):Int):=rfl;rw[this];by_cases e:b<64
 .rw[aq e,(M:b/64=0)];decide
 .rw[ao e,(M:b/64=1)];decide
def UE(b:Nat):(b:Int).tmod 64=((b%64:Nat):Int):=rfl
def DK{β:Type}{l:Z dQ}{f:((V Nat×Hp)->V β)->(V Nat×Hp)->V β}(H:dP->Hp)(K:Hp->V β)
  (h0:∀rec acc,f rec (Y,H acc)=K (H acc)) (a:∀rec acc b,b<l.length->f rec (O b,H acc)=rec (EJ l (O b),H (Ay acc b))):
  ∀(m:Nat)(o:V Nat)(acc:dP)(N:Nat),(∀k,o=O k->k<l.length)->l9 l m o=Y->m<N->aQ f N (o,H acc)=K (H ((hh l m o).foldl Ay acc))
 |m,o,acc,0,_,_,h=>M|m,Y,acc,N+1,_,_,_=>by rw[mN];exact h0 _ acc
 |0,O k,acc,N+1,_,h,_=>by cases h
 |m+1,O k,acc,N+1,c,h,d=>by show f (aQ f N) (O k,H acc)=_;rw[a _ acc k (c k rfl),DK H K h0 a m (EJ l (O k)) (Ay acc k) N (λk' e=>yL e) h M];rfl
section
variable{N:Nat}(hN:1073741824<=N)
include hN
set_option maxHeartbeats 2000000 in
theorem adF(l:Z dQ)(h:Hp)(t:AM)(e1:h.fP=[t])(m:t.pH=O 0)(e3:h.jU=[eK 0 l])(p:∀k,k<l.length->∃e,h.eY[k]?=O e/\e.number=k/\e.up=EJ l (O k))(w:∀k,k<l.length->QN l k)(b0:l.length<=128)(c0:0<l.length):
  T (Qs N (O 0) h) λr=>r.2={h with jn:=h.jn++[O ((List.range l.length).map (Gc l))],fP:=[{t with bits:=O (h.jn.length,l.length)}]}:=by
 obtain⟨d0,rm,ready,bits,q⟩:=t;dsimp only at m;subst m;have z:((eK 0 l).length:Int).toNat=l.length:=by rw[q6];rfl
 unfold Qs;simp only[aE,e1,ic,dX,e3,z,cw,A6,List.length_replicate];have A:(List.replicate l.length (dP.mk 0 0)).isEmpty=F:=by cases h':l.length with|zero=>omega|succ n=>rfl
 refine bO (by grind [cq]) ?_;simp only[A,aX];refine bO rfl ?_;refine DH (eK 0 l) (q7 l 0) (λP=>((),{h with jn:=h.jn++[O (mO l P)],fP:=[{(⟨O 0,rm,ready,bits,q⟩:AM)with bits:=O (h.jn.length,l.length)}],jU:=[eK 0 l]})) ?_ ?_ ?_
 .have:mO l (λ_=>False)=List.replicate l.length ⟨0,0⟩:=by
   apply tE
   grind [mO]
  rw[this]
 .rintro P ⟨s,o⟩ B C D k;obtain⟨a,c,E,e⟩:=(jF l 0 _).1 C;cases e;rw[dN]at D⊢;have d:a<l.length:=(cr.1 E).1;have e0:¬∃s,P (s,O a):=by
   rintro⟨s,u⟩;obtain⟨f0,g0,h0,e⟩:=(jF l 0 _).1 (B _ u)
   grind
  have i0:(mO l P)[a]?=O ⟨0,0⟩:=by
   simp only[mO,gu,NH d,dr]
   grind
  have G:(mO l P).set a ⟨0,0⟩=mO l P:=by
   apply tE
   grind
  let H:dP->Hp:=λg=>{h with jn:=h.jn++[O ((mO l P).set a g)],fP:=[{(⟨O 0,rm,ready,bits,q⟩:AM)with bits:=O (h.jn.length,l.length)}],jU:=[eK 0 l]}
  have I:mO l (λy=>P y∨y=(c.name,O a))=(mO l P).set a (Gc l a):=by
   apply tE;intro j;rw[y9];by_cases e:a=j
   .subst e;rw[aq rfl,aq (by grind)];simp only[mO,gu,NH d,dr];simp_all
   .rw[ao e];by_cases f:j<l.length
    .simp only[mO,gu,NH f,dr];have:(∃s,P (s,O j)∨(s,O j)=(c.name,O a))↔∃s,P (s,O j):=by grind
     by_cases u:∃s,P (s,O j);simp_all
     grind
    grind [vC,Ge]
  rw[I];conv=>lhs;rw[<-G]
  refine DK (l:=l) H (λh=>k ((),h)) (λrec g=>rfl) (λrec g b J=>?_) l.length (O a) ⟨0,0⟩ N (λk' e=>by grind) (yN w d) M;obtain⟨j0,K,L,k0⟩:=p a d;obtain⟨l0,i,Q,v⟩:=p b J;have R:∀(x:dP),((mO l P).set a x)[a]?=O x:=λx=>by grind
  have S:∀(x:Z dP),e8 (h.jn++[O x]) h.jn.length=O x:=λx=>by simp[e8]
  have U:dv (decide (0<=(a:Int))&&decide ((a:Int)<(l.length:Int)))=O ():=lj dx;have X:dv (decide ((64:Int)≠0))=O ():=rfl;have a0:dv (decide (0<=((b%64:Nat):Int)))=O ():=lj (by grind);simp only[H,mV,tA,aW,aE,ic,K,i,L,Q,U,X,UD (show b<128 by omega),UE,a0,dp,S,hx,R,cw];by_cases e:b<64
  .simp only[aq e,show((0:Int)==0)=W from rfl,aW,List.set_append_right _ _ (bq _),Bb,A6,List.set_set,i,aE,v,Ay,KS,e,cm];rfl
  .simp only[ao e,show((1:Int)==0)=F from rfl,show((1:Int)==1)=W from rfl,aW,aX,List.set_append_right _ _ (bq _),Bb,A6,List.set_set,i,aE,v,Ay,KS,e,cA];rfl
 .refine ad ?_;have:mO l (λx=>x∈eK 0 l)=(List.range l.length).map (Gc l):=by
   apply tE;intro j;by_cases f:j<l.length
   .simp only[mO,gu,NH f,dr];rw[aq ⟨l[j].name,(jF l 0 _).2 ⟨j,l[j],cX f,aH⟩⟩]
   grind [vC,Ge]
  rw[this]
theorem aaL(h:Hp)(t:AM)(e1:h.fP=[t])(a:t.pH=O 0)(e3:h.jU=[[]]):T (Qs N (O 0) h) λr=>r.2={h with fP:=[{t with bits:=O (h.jn.length,0)}]}:=by obtain⟨b,rm,ready,bits,c⟩:=t;dsimp only at a;subst a;unfold Qs;simp only[aE,e1,ic,dX,e3,za,cw,A6];exact⟨_,rfl,rfl⟩
def Fr(h h':Hp):Prop:=∃A B,h'={h with fP:=A,jn:=B}
def iQ(ls:Z dc)(a b:bP):aa:=(gk ls a).any (λx=>x.name==b)||a==b
omit hN in
theorem XI(l:Z dQ)(m:l.length<=128):Uz l ((List.range l.length).map (Gc l)):=by
 refine⟨aH,λa r c=>?_⟩;rw[gu]at c;obtain⟨a',n,rfl⟩:=c8.1 c;obtain⟨p,rfl⟩:a<l.length/\a=a':=by grind
 have h0:Gb ⟨0,0⟩:=⟨b9,b9,b9,b9⟩
 obtain⟨⟨d,f,g,h⟩,i⟩:=YQ h0 (hh l l.length (O a)) λx j=>by have:=yO (o:=O a) (λk e=>by grind) x j;omega
 refine⟨d,f,g,h,λb q=>?_⟩;unfold Gc;rw[i b M];have:ua ⟨0,0⟩ b=F:=by unfold ua;simp
 grind
omit hN in
theorem yP.adG {h:Hp} (a:yP ls h) {k:Nat} (b:(cs ls)[k]?=O c):gk ls c.name=(hh (cs ls) (cs ls).length (O k)).filterMap λq=>(cs ls)[q]?:=by
 have d:k<(cs ls).length:=(cr.1 b).1;have f:=yN a.yQ d;have j:=a.len;have g:ix (cs ls) c.name=O k:=by have:=oH (i:=0) a.kN b;grind
 have l:jP ls c.name=O c:=by rw[xe,g];exact b
 have:=q8 (ls:=ls) 129 (O k) (λk' e=>by grind);rw[(M:129=(cs ls).length+(129-(cs ls).length)),sy _ f,<-(M:129=(cs ls).length+(129-(cs ls).length))]at this
 grind [gk]
omit hN in
theorem QO{h:Hp}(a:yP ls h){d:dQ}{x y:Nat}(b:(cs ls)[x]?=O c)(k:(cs ls)[y]?=O d):decide (y∈hh (cs ls) (cs ls).length (O x))=iQ ls c.name d.name:=by
 have o:x<(cs ls).length:=(cr.1 b).1;have p:=a.len;unfold iQ;rw[a.adG b];have g:=a.kN;have l:∀q e,(cs ls)[q]?=O e->(e.name=d.name↔q=y):=λq e j=>by
  constructor
  .intro f;have r:=oH (i:=0) g j;have s:=oH (i:=0) g k
   grind
  grind
 rw[EP];simp only[aV,lC,List.any_eq_true,gE,List.mem_filterMap];constructor
 grind
 .rintro (⟨e,⟨q,t,j⟩,f⟩|f)
  grind
  .rw[<-(l x c b).1 f];obtain⟨n,m⟩:∃n,(cs ls).length=n+1:=⟨(cs ls).length-1,M⟩
   rw[m];simp[hh]
omit hN in
theorem DL{h:Hp}(g:yP ls h){a b:bP}(c:ix (cs ls) a=Y∨ix (cs ls) b=Y):(a==b)=iQ ls a b:=by
 unfold iQ;rcases c with c|c
 .have:jP ls a=Y:=by rw[xe,c];rfl
  unfold gk;rw[this];rfl
 .have:(gk ls a).any (λx=>x.name==b)=F:=by rw[ER];intro x d;have e:=q4 (ls:=ls) 129 _ (λz f=>(s6 f).1) x d;simpa using DE c x e
  grind
theorem adH(ls:Z dc)(q0:iY ls)(a b:bP)(h:Hp)(g:yP ls h):T (M6 N (O 0,a,b) h) λr=>r.1=iQ ls a b/\yP ls r.2/\Fr h r.2:=by
 obtain⟨t,e1,e2,e3,n⟩:=g.fP;have H:(t.pH).isNone=F:=by rw[e2];rfl
 have I:∀(j:Hp),yP ls j->Fr h j->T (Wv N (0,O 0) j) λr=>yP ls r.2/\Fr h r.2/\∃v,r.2.fP=[v]/\v.ready.done.v≠0:=by
  intro j f hi;obtain⟨t,e1,e2,e3,n⟩:=f.fP;unfold Wv;simp only[e1,ic,aE];refine aw (λl=>ad ⟨f,hi,t,e1,by grind⟩) λl=>?_;simp only[oa,gE]at l;rcases n with⟨_,J⟩|⟨r0,_⟩
  .have K:∀k,k<(cs ls).length->∃e,j.eY[k]?=O e/\e.number=k/\e.up=EJ (cs ls) (O k):=λk w=>by obtain⟨e,he,z⟩:=f.eY k _ (cX w);exact⟨e,he,z.number,by rw[z.up];simp[EJ,w]⟩
   refine bO (by simp[J]) ?_;by_cases C:0<(cs ls).length
   .refine aB (adF hN (cs ls) {j with fP:=[kA t 1]} (kA t 1) rfl e2 f.jU K f.yQ f.len C) λy p=>?_;rw[p];simp only[ic,aE];refine bO (by simp[kA,l]) (ad ⟨⟨⟨_,rfl,e2,e3,.inr ⟨by simp[kA,uZ],λ_=>⟨j.jn.length,_,?_,?_,XI (cs ls) f.len⟩⟩⟩,f.jU,f.kN,f.len,f.eY,f.yQ,f.named⟩,?_,_,rfl,by simp[kA,uZ]⟩)
    .simp[kA,uZ]
    .simp[e8]
    .obtain ⟨A,B,e⟩:=hi;rw[e];exact⟨_,_,rfl⟩
   .have L:cs ls=[]:=oT M;refine aB (aaL hN {j with fP:=[kA t 1]} (kA t 1) rfl e2 (by have:=f.jU;rw[L]at this;exact this)) λy p=>?_;rw[p];simp only[ic,aE];refine bO (by simp[kA,l]) (ad ⟨⟨⟨_,rfl,e2,e3,.inr ⟨by simp[kA,uZ],λh=>(C h).elim⟩⟩,f.jU,f.kN,f.len,f.eY,f.yQ,f.named⟩,?_,_,rfl,by simp[kA,uZ]⟩);obtain⟨A,B,e⟩:=hi;rw[e];exact⟨_,_,rfl⟩
  grind
 unfold M6;simp only[mV,aX,aE,e1,ic,H];have P:Wu N (0,1) h=O (IntKind.i64.wrap (t.ny.v+1),{h with fP:=[TK t (IntKind.i64.wrap (t.ny.v+1))]}):=by grind [Wu,List.getElem?_cons_zero]
 rw[P];simp only[aE];have Q:yP ls {h with fP:=[TK t (IntKind.i64.wrap (t.ny.v+1))]}:=⟨⟨_,rfl,e2,e3,n⟩,g.jU,g.kN,g.len,g.eY,g.yQ,g.named⟩
 refine aB (I _ Q ⟨_,_,rfl⟩) λy ⟨m,hi,t3,f1,s0⟩=>?_;obtain⟨R,g1,g2,g3,s⟩:=m.fP;obtain rfl:t3=R:=by grind
 have S:=m.jU;have U:∀o:V Nat,(Option.map O o).getD Y=o:=λo=>by cases o<;>rfl
 simp only[f1,ic,aE,g2,dX,S,fw,U];cases X:xq 0 (cs ls) a with
 |none=>grind [ad,DL]|some x=>
  simp only[mV,aX];cases a0:xq 0 (cs ls) b with
  |none=>grind [ad,DL]|some q=>
   obtain⟨t0,c,D,rfl⟩:=DG X;obtain⟨b0,d,l,rfl⟩:=DG a0;obtain⟨ex,hex,c0⟩:=m.eY x c D;obtain⟨eq,d0,e0⟩:=m.eY q d l;rcases s with⟨h0,_⟩|⟨_,s⟩
   grind
   obtain⟨i,rows,f0,g0,u0,i0⟩:=s M;have w0:=g.len;obtain⟨r,E⟩:∃r,rows[x]?=O r:=⟨_,cX (by grind)⟩
   obtain⟨j0,b2,k0,l0,m0⟩:=i0 x r E;have u:=m0 q b0;rw[QO g D l]at u;have n0:dv (decide ((64:Int)≠0))=O ():=rfl;have o0:dv (decide (0<=(x:Int))&&decide ((x:Int)<(rows.length:Int)))=O ():=lj (by grind);have p0:dv (decide (0<=((q%64:Nat):Int)))=O ():=lj (by grind);simp only[mV,aX,aE,hex,d0,c0.number,e0.number,n0,f0,o0,UD (show q<128 by omega),UE,p0,dp,g0,E,hx];have G:q%64<64:=ui _ b9;by_cases e:q<64
   .simp only[aq e,show((0:Int)==0)=W from rfl,aW];refine ad ⟨?_,m,hi⟩;rw[<-u,Pf j0 b2 G];unfold ua;rw[aq e,(M:q%64=q)]
   .simp only[ao e,show((1:Int)==0)=F from rfl,show((1:Int)==1)=W from rfl,aW,aX];refine ad ⟨?_,m,hi⟩;rw[<-u,Pf k0 l0 G];unfold ua;rw[ao e,(M:q%64=q-64)]
end
def xh(s p:bP):aa:=decide (p.length<=s.length)&&(s.take p.length==p)
def s9(c:Int):aa:=decide (c≥65)&&decide (c<=90)||decide (c≥97)&&decide (c<=122)
def DM(s p:bP):bP:=if xh s p then s.drop p.length else s
def aaN(c:Int):aa:=s9 c||(decide (48<=c)&&decide (c<=57))||decide (c=95)
def gn(s:bP):aa:=decide (s.length<=32)&&(match s with
 |[]=>F|c::_=>s9 c.toNat)&&s.all λc=>aaN c.toNat
def hP(s:bP):aa:=gn (DM s [63])
theorem aaO(s:bP):DM s [63]=match s with
 |63::r=>r|_=>s:=by
 unfold DM xh;cases s with
 |nil=>rfl|cons c r=>grind
def iw(m:gB):Prop:=∀(i j:Nat)(hi:i<j)(a:j<m.aj.length),(m.aj[i]'M).iD<m.aj[j].iD
def IQ(m:gB)(id:Int):Int:=match m.aj.findIdx? (·.iD==id)with
 |some i=>i|none=>-1
theorem lx(a:iw m)(hi:i<m.aj.length):IQ m m.aj[i].iD=i:=by
 have:m.aj.findIdx? (·.iD==m.aj[i].iD)=O i:=by rw[List.findIdx?_eq_some_iff_getElem];refine⟨hi,aH,λj b=>?_⟩;have:=a j i b hi;simp;omega
 unfold IQ;rw[this]
theorem DN{id:Int}(h:∀n∈m.aj,n.iD≠id):IQ m id=-1:=by grind [List.findIdx?_eq_none_iff,IQ]
theorem at_end(b:iw m){id:Int}{q:Nat}(f:q<=m.aj.length)(g:∀i(hi:i<m.aj.length),i<q->m.aj[i].iD<id)(c:∀i(hi:i<m.aj.length),q<=i->¬m.aj[i].iD<id):
  (if h:q<m.aj.length then(if m.aj[q].iD=id then(q:Int)else-1)else-1)=IQ m id:=by
 have Y:(∀(h:q<m.aj.length),m.aj[q].iD≠id)->IQ m id=-1:=λh=>DN λn d e=>by
  obtain⟨i,hi,rfl⟩:=hB d;by_cases j:i<q
  grind
  .have a:q<m.aj.length:=M;have k:=h a;have l:=c q a (bq _);by_cases o:q=i
   grind
   .have:=b q i M hi;omega
 grind [lx]
theorem QQ{x:Int}(a:-18446744073709551616<x)(b:x<18446744073709551616)(h:IntKind.i64.wrap x=0):x=0:=by grind [IntKind.wrap,IntKind.bits,IntKind.signed]
structure ra(n:Nd):Prop where
 au:n.au.length<=1048576
 role:n.role.length<=1048576
 bd:n.bd.length<=1048576
 name:∀p∈n.bd,p.name.length<=1048576
 aD:n.aD.length<=1048576
 kid:∀k∈n.aD,KT k
 bK:n.bK.length<=1048576
 YR:∀r∈n.bK,r.role.length<=1048576
 cu:KT n.cu
structure nn(m:gB):Prop where
 len:m.aj.length<=4096
 node:∀n∈m.aj,ra n
def ly(ps:Z Ku)(i:Nat):aa:=if h:i<ps.length then((!hP ps[i].name)||decide ((ps[i].value.length:Int)>4096))||(if h:0<i then !Op.bytesLess ps[i-1].name ps[i].name else F)else F
def oI(next:Int)(rs:Z Rf)(i:Nat):aa:=if h:i<rs.length then(((!hP rs[i].role)||decide (rs[i].target<1))||decide (rs[i].target≥next))||(if h:0<i then !Op.bytesLess rs[i-1].role rs[i].role else F)else F
def kg(ps:Z Ku):aa:=(List.range ps.length).any (ly ps)
def mr(next:Int)(rs:Z Rf):aa:=(List.range rs.length).any (oI next rs)
def jG(m:gB)(n:Nd):aa:=(hP n.au&&((decide (n.cu=0)==decide (n.role=[]))&&(decide (n.role=[])||hP n.role)))&&(decide (n.aD.length<=m.aj.length)&&(!kg n.bd&&!mr m.next n.bK))
def nN(m:gB)(n:Nd):aa:=hP n.au&&(decide (n.aD.length<=m.aj.length)&&(!kg n.bd&&!mr m.next n.bK))
theorem sA(a:iw m)(id:Int):(IQ m id=-1/\∀n∈m.aj,n.iD≠id)∨∃i,∃hi:i<m.aj.length,IQ m id=(i:Int)/\m.aj[i].iD=id:=by
 by_cases h:∃n∈m.aj,n.iD=id
 .obtain ⟨n,b,rfl⟩:=h;obtain⟨i,hi,rfl⟩:=hB b;exact .inr ⟨i,hi,lx a hi,rfl⟩
 grind [DN]
theorem vg(b:iw m)(hi:i<m.aj.length)(c:j<m.aj.length)(h:m.aj[i].iD=m.aj[j].iD):i=j:=by
 rcases rE i j with a|a|a
 .have:=b i j a c;omega
 .exact a
 .have:=b j i a hi;omega
theorem jH(c:iw m){x y:Nd}(a:x∈m.aj)(b:y∈m.aj)(h:x.iD=y.iD):x=y:=by
 obtain⟨i,hi,rfl⟩:=hB a;obtain⟨j,d,rfl⟩:=hB b
 grind [vg]
def sC(m:gB)(n:Nd)(k:Int):Prop:=∃x∈m.aj,x.iD=k/\x.cu=n.iD
instance(m:gB)(n:Nd)(k:Int):Decidable (sC m n k):=by unfold sC;infer_instance
def jk(m:gB)(n:Nd):aa:=decide ((∀k∈n.aD,sC m n k)/\n.aD.Nodup)
def cE(m:gB)(id:Int):V Nd:=m.aj.find? (·.iD==id)
theorem gx(a:iw m)(hi:i<m.aj.length):cE m m.aj[i].iD=O m.aj[i]:=by unfold cE;rw[List.find?_eq_some_iff_getElem];refine⟨aH,i,hi,rfl,λj b=>?_⟩;have:=a j i b hi;simp;omega
theorem sD{id:Int}(h:∀n∈m.aj,n.iD≠id):cE m id=Y:=by grind [cE,List.find?_eq_none]
theorem gT{id:Int}{x:Nd}(h:cE m id=O x):x∈m.aj/\x.iD=id:=by grind [cE,Gx]
def fx(m:gB):Nat->Nd->aa
 |0,_=>F|f+1,n=>if n.cu=0 then decide (n.role=[])else match cE m n.cu with
  |none=>F|some p=>(hP n.role&&decide (n.iD∈p.aD))&&fx m f p
def pu(m:gB):aa:=!((decide (m.next<1)||decide (m.next>1048577))||decide ((m.aj.length:Int)>4096))
def ub(m:gB)(i:Nat):aa:=if h:i<m.aj.length then(decide (m.aj[i].iD<1)||decide (m.aj[i].iD≥m.next))||(if h:0<i then decide (m.aj[i].iD<=m.aj[i-1].iD)else F)else F
def Iw(m:gB):aa:=!(List.range m.aj.length).any (ub m)
def dE(m:gB):aa:=pu m&&(Iw m&&m.aj.all λn=>(nN m n&&jk m n)&&fx m 64 n)
theorem Ix(h:Iw m=W):iw m/\∀n∈m.aj,1<=n.iD/\n.iD<m.next:=by
 unfold Iw at h;simp only[iB,ER,uf]at h;have h':∀i(hi:i<m.aj.length),1<=m.aj[i].iD/\m.aj[i].iD<m.next/\∀h:0<i,m.aj[i-1].iD<m.aj[i].iD:=λi hi=>by
  have:=h i hi;unfold ub at this
  grind
 have b:∀(d i:Nat)(a:i+d+1<m.aj.length),(m.aj[i]'M).iD<m.aj[i+d+1].iD:=by
  intro d;induction d with
  |zero=>grind|succ d e=>grind
 refine⟨λi j f a=>?_,λn c=>?_⟩
 .obtain ⟨d,rfl⟩:∃d,j=i+d+1:=⟨j-i-1,M⟩
  exact b d i a
 .obtain ⟨i,hi,rfl⟩:=hB c
  grind
def DO(m:gB)(a:Z Int):Z Int:=m.aj.map λn=>((a.count n.iD:Nat):Int)
def KU(a:Z Int)(b:j<m.aj.length):(DO m a)[j]?=O ((a.count m.aj[j].iD:Nat):Int):=by simp[DO,b]
theorem UH(b:iw m)(a:Z Int)(c:j<m.aj.length):(DO m a).set j (((a.count m.aj[j].iD+1:Nat)):Int)=DO m (a++[m.aj[j].iD]):=by
 apply List.ext_getElem
 .simp[DO]
 grind [DO,vg]
def h5(m:gB):Nat->Nd->aa
 |0,_=>F|f+1,n=>if n.cu=0 then W else match cE m n.cu with
  |none=>F|some p=>h5 m f p
structure zW(m:gB):Prop where
 ok:nn m
 sorted:iw m
 rj:∀n∈m.aj,1<=n.iD/\n.iD<=1048576
theorem Gf(hi:i<m.aj.length):(m.aj.take (i+1)).flatMap Nd.aD=(m.aj.take i).flatMap Nd.aD++m.aj[i].aD:=by grind [List.take_succ_eq_append_getElem]
theorem DP{m:gB}{c:Nat}(a:∀n∈m.aj,n.aD.length<=c):∀i:Nat,((m.aj.take i).flatMap Nd.aD).length<=i*c
 |0=>by grind|i+1=>by
  have b:=DP a i
  grind [fR,Gf,jf,Nat.succ_mul,de]
def QR(a:nn m)(i:Nat):((m.aj.take i).flatMap Nd.aD).length<=i*1048576:=DP (λn b=>(a.node n b).aD) i
def lz(m:gB)(n:Nd):aa:=if n.cu=0 then decide ((m.aj.flatMap Nd.aD).count n.iD=0)else decide ((m.aj.flatMap Nd.aD).count n.iD=1)
def vh(m:gB):Prop:=∀n∈m.aj,∀k∈n.aD,sC m n k
instance(m:gB):Decidable (vh m):=by unfold vh;infer_instance
theorem xi(d:iw m)(f:vh m)(g:m.aj.all (lz m)=W):∀n∈m.aj,n.cu≠0->∃x,cE m n.cu=O x/\n.iD∈x.aD:=λn a h=>by
 have b:=di.1 g n a;unfold lz at b;rw[ao h,aV]at b;have j:n.iD∈m.aj.flatMap Nd.aD:=List.count_pos_iff.1 M;obtain⟨x,c,k⟩:=NN.1 j;obtain⟨y,l,o,p⟩:=f x c _ k;have e:=jH d l a o;subst e;obtain⟨i,hi,rfl⟩:=hB c
 grind [gx]
def kB(m:gB):aa:=decide (vh m)&&(m.aj.all (lz m)&&m.aj.all (h5 m 64))
theorem DQ:∀{l:Z Nd},(∀x∈l,k∉x.aD)->(l.flatMap Nd.aD).count k=0
 |[],_=>rfl|x::l,h=>by grind [List.count_eq_zero]
theorem KV(a:iw m):m.aj.Nodup:=by
 rw[Gz,Ly];intro i j hi b c h;have d:=a i j c b
 grind
theorem QS(b:iw m){p:Nd}(c:p∈m.aj)(h:∀x∈m.aj,x≠p->k∉x.aD):(m.aj.flatMap Nd.aD).count k=p.aD.count k:=by
 obtain⟨d,f,e⟩:=List.append_of_mem c;have a:=KV b;rw[e]at a;have g:=List.nodup_append.1 a
 grind [List.nodup_cons,DQ]
theorem UI{p:Nd}(a:p∈m.aj)(k:Int):p.aD.count k<=(m.aj.flatMap Nd.aD).count k:=by
 obtain⟨b,c,e⟩:=List.append_of_mem a
 grind
theorem UJ:hP []=F:=rfl
theorem yS(m:gB)(n:Nd):jG m n=W↔nN m n=W/\((n.cu=0/\n.role=[])∨(n.cu≠0/\n.role≠[]/\hP n.role=W)):=by grind [jG,nN]
def zX(m:gB):∀(f:Nat)(n:Nd),fx m f n=W->h5 m f n=W
 |0,n,h=>by cases h
 |f+1,n,h=>by
  unfold fx at h;unfold h5;split
  .rfl
  .rename_i a;rw[ao a]at h;split at h
   .cases h
   .rename_i p b;simp only[aP]at h;exact zX m f p h.2
theorem sE(o:zW m):(m.aj.all (jG m)&&kB m)=m.aj.all λn=>(nN m n&&jk m n)&&fx m 64 n:=by
 have q:=o.sorted;rw[EP];simp only[aP,di];constructor
 .rintro ⟨t,r⟩;unfold kB at r;simp only[aP,aV]at r;obtain⟨d,u,B⟩:=r;have C:=xi q d u;have b:∀(f:Nat)(n:Nd),n∈m.aj->h5 m f n=W->fx m f n=W:=by
   intro f;induction f with
   |zero=>intro n a h;cases h
   |succ f D=>
    intro n a h;have g:=((yS m n).1 (t n a)).2;unfold h5 at h;unfold fx;split
    grind
    .rename_i c;rw[ao c]at h;obtain⟨x,v,E⟩:=C n a c;rw[v]at h⊢;rcases g with⟨g,_⟩|⟨_,_,g⟩
     grind
     .simp only[g,E,od,Bool.and_self,lD];exact D x (gT v).1 h
  intro n a;refine⟨⟨((yS m n).1 (t n a)).1,?_⟩,b 64 n a (di.1 B n a)⟩;unfold jk;rw[aV];refine⟨d n a,List.nodup_iff_count.2 λk=>?_⟩;by_cases G:k∈n.aD
  .obtain ⟨y,i,j,w⟩:=d n a k G;have z:=di.1 u y i;have I:=o.rj n a;unfold lz at z;rw[ao M,aV,j]at z;have:=UI a k;omega
  grind
 .intro h;have d:vh m:=λn a=>by
   have:=(h n a).1.2;unfold jk at this
   grind
  refine⟨λn a=>(yS m n).2 ⟨(h n a).1.1,?_⟩,?_⟩
  .have b:=(h n a).2;unfold fx at b;by_cases c:n.cu=0
   grind
   .rw[ao c]at b;split at b
    .cases b
    .simp only[aP]at b
     grind [UJ,absurd]
  .unfold kB;simp only[aP,aV,di];refine⟨d,λn a=>?_,λn a=>zX m 64 n (h n a).2⟩;unfold lz;by_cases c:n.cu=0
   .rw[aq c,aV];refine DQ λx l s=>?_;obtain⟨y,i,j,w⟩:=d x l _ s;have e:=jH q i a j;subst e;have:=o.rj x l;omega
   .rw[ao c,aV];have b:=(h n a).2;unfold fx at b;rw[ao c]at b;split at b
    .cases b
    .rename_i p H;simp only[aP,aV]at b;obtain⟨A,J⟩:=gT H;have K:p.aD.Nodup:=by
      have:=(h p A).1.2;unfold jk at this
      grind
     rw[QS q A (λx l L s=>by
      obtain⟨y,i,j,w⟩:=d x l _ s
      grind [jH])]
     grind
def vj(m:gB)(i:Nat):Int:=if h:0<i/\i<=m.aj.length then(m.aj[i-1]'M).iD else 0
def UK:Nd:=⟨0,[],0,[],[],[],[]⟩
def Gg(m:gB)(id:Int):Nd×aa:=if dE m=W then(match cE m id with
 |some x=>(x,W)|none=>(UK,F))else(UK,F)
theorem mP(b:nn m)(h:dE m=W):zW m:=by unfold dE at h;rw[aP,aP]at h;obtain⟨a,c,e⟩:=h;obtain⟨d,f⟩:=Ix c;unfold pu at a;simp only[iB,tB,cP]at a;exact⟨b,d,λn g=>by grind⟩
def yT(p:Int)(c:Int):Prop:=((65<=c/\c<=90)∨(97<=c/\c<=122))∨(p≠0/\((48<=c/\c<=57)∨c=95))
def ma(c:Int):s9 c=W↔(65<=c/\c<=90)∨(97<=c/\c<=122):=by simp[s9,ge_iff_le]
theorem UL(c:Int):aaN c=W↔((65<=c/\c<=90)∨(97<=c/\c<=122))∨((48<=c/\c<=57)∨c=95):=by
 simp only[aaN,lC,ma,aP,aV]
 grind
theorem DR(y:bP):gn y=W↔y.length<=32/\0<y.length/\∀(i:Nat)(c:bc),y[i]?=O c->yT i (c.toNat:Int):=by
 unfold gn;simp only[aP,aV];cases y with
 |nil=>simp|cons a y=>
  simp only[ie,ma,di,UL];constructor
  .rintro ⟨⟨e,f⟩,b⟩;refine⟨e,M,λi c d=>?_⟩;cases i with
   |zero=>cases d;exact .inl f
   |succ i=>
    rcases b c (bW d)with h|h
    .exact .inl h
    .exact .inr ⟨M,h⟩
  .rintro ⟨e,_,b⟩;refine⟨⟨e,?_⟩,λc d=>?_⟩
   .rcases b 0 a rfl with h|⟨h,_⟩
    .exact h
    .simp at h
   .obtain ⟨i,hi,rfl⟩:=hB d;rcases b i _ (cX hi)with h|⟨_,h⟩
    grind
    grind
section
variable{N:Nat}(hN:1073741824<=N)
include hN
theorem Pg{y:bP}{f:(Int×ab->V β)->Int×ab->V β}(j:y.length<=32)(h0:0<y.length)
  (step:∀rec p,0<=p->p<=(y.length:Int)->(p<(y.length:Int)->∀c,y[p.toNat]?=O c->¬yT p (c.toNat:Int)->gn y=F)->(gn y=W->p=(y.length:Int)->True)->((∀c,y[p.toNat]?=O c->yT p (c.toNat:Int))->p<(y.length:Int)->T (rec (p+1,())) P)->(p=(y.length:Int)->gn y=W)->T (f rec (p,())) P):T (aQ f N (0,())) P:=by
 refine bl (λs=>0<=s.1/\s.1<=y.length/\∀(i:Nat)(c:bc),(i:Int)<s.1->y[i]?=O c->yT i (c.toNat:Int)) (λs=>(y.length-s.1).toNat) ⟨aH,aH,λi c h=>by grind⟩ (by grind) ?_;rintro rec ⟨p,u⟩ ⟨b,d,e⟩ k;dsimp only at b d e;refine step rec p b d (λg c a l=>?_) (λ_ _=>trivial) (λm g=>k _ ⟨by grind,by grind,λi c hi a=>?_⟩ (by grind)) (λg=>(DR y).2 ⟨j,h0,λi c a=>e i c ?_ a⟩)
 grind [gn,DR]
 grind
 grind
theorem YS(a:Int):T (TV N a) λr=>r=s9 a:=by unfold TV;refine aw (λc=>aw (λd=>ad ?_) (λd=>aw (λb=>ad ?_) (λb=>ad ?_))) (λc=>aw (λb=>ad ?_) (λb=>ad ?_));all_goals(simp only[aV,cP]at*;rw[EP,ma];simp;try omega)
theorem adI(s p:bP):T (WW N (s,p)) λr=>r=xh s p:=by
 unfold WW xh;refine aw (λh=>?_) λh=>ad ?_
 .simp only[aV]at h
  grind [bO,ad]
 grind
theorem adJ(s p:bP):T (WX N (s,p)) λr=>r=DM s p:=by
 unfold WX DM;refine aB (adI hN s p) λy a=>?_;subst a;refine aw (λh=>?_) λh=>ad (by rw[h];rfl);have b:p.length<=s.length:=by simp only[xh,aP,aV]at h;exact h.1
 grind [bO,ad]
theorem adK(s p:bP):T (WY N (s,p)) λr=>r=DM s p:=by grind [WY,aB,adJ,ad]
theorem Ph(s:bP)(I:s.length<=1048576):T (Du N s) λr=>r=hP s:=by
 unfold Du;refine aB (adK hN s [63]) λy l=>?_;have m:hP s=gn y:=by rw[hP,l]
 rw[m];clear m l;refine aw (λh=>ad ?_) λK=>aw (λh=>ad ?_) λf=>?_
 .have:y=[]:=by grind
  subst this;rfl
 .simp only[aV]at h;have:¬y.length<=32:=M;simp[gn,this]
 .simp only[cP,kC]at f;have h0:0<y.length:=by grind
  refine aL M M λx _ n=>aB (YS hN _) λz o=>aw (λh=>ad ?_) λA=>?_
  .cases e:gn y with
   |false=>rfl|true=>
    have:=((DR y).1 e).2.2 0 x n;rw[o]at h;simp only[iB,<-Bool.not_eq_true,ma]at h;rcases this with h'|⟨h',_⟩
    grind
    grind
  .refine aS (λ_=>gn y=W) (λJ q=>bO (Bf (ef (by omega:y.length<=32) b9)) ?_) (λ_ h=>ad h.symm);refine Pg hN (y:=y) M M λrec p t L b _ a u=>?_;rw[iT];refine aw (λd=>?_) λd=>q _ (u (by grind));simp only[aV]at d;rw[b7 M M];obtain⟨c,B,C,g⟩:=dJ t d;have v:ax (y.map λc:bc=>(c.toNat:Int)) p=O (c.toNat:Int):=by
    obtain⟨j,rfl⟩:=oR t
    grind [qf]
   rw[v];simp only[aE];have b:=b d c g;have a:=λD=>a (λP f=>by rw[g]at f;cases f;exact D) d;refine aB (YS hN _) λQ E=>?_;subst E;have Ig:p=0->s9 (c.toNat:Int)=W:=λw=>by grind
   unfold yT at b a;rw[ma]at Ig;have R:=ma (c.toNat:Int);clear q u v B g C n o A;generalize(c.toNat:Int)=z at*;refine aw (λi=>?_) (λi=>?_)
   .have i:¬((65<=z/\z<=90)∨(97<=z/\z<=122)):=by grind
    have S:p≠0:=λw=>i (Ig w);refine aw (λG=>aw (λk=>ad (b ?_).symm) (λk=>a ?_)) (λG=>aw (λH=>aw (λk=>ad (b ?_).symm) (λk=>a ?_)) (λH=>a ?_))<;>simp only[aV,cP,iB,oa,gE,qo,ne_eq]at*<;>omega
   grind
theorem aaP{a hi:Int}(h0:0<=a)(b:a<=hi)(c:hi<=1048576):IntKind.i64.wrap ((IntKind.u64.wrap (IntKind.i64.wrap (a+hi))).fdiv (2^(min 1 IntKind.u64.bits)))=(a+hi)/2:=by
 have e:(2:Int)^(min 1 IntKind.u64.bits)=2:=rfl
 grind [b7,DJ,Int.fdiv_eq_ediv_of_nonneg]
theorem aaQ(m:gB)(j:iw m)(k:∀n∈m.aj,1<=n.iD/\n.iD<=1048576)(U:m.aj.length<=1048576)(id:Int)(p:KT id):T (Vw N (m,id)) λr=>r=IQ m id:=by
 have X:=p.1;have a0:=p.2;have B:T (Wl N (m.aj,id,λ(C,D)=>Wm N (C,D))) λr=>(bif !r.2 then(-1:Int)else r.1)=IQ m id:=by
  unfold Wl Wm;refine aS (λs=>0<=s.1/\s.1<=m.aj.length/\(-1073741824<=id/\id<=1073741824->(∀i(hi:i<m.aj.length),(i:Int)<s.1->m.aj[i].iD<id)/\∀i(hi:i<m.aj.length),s.1<=(i:Int)->¬m.aj[i].iD<id)) (λJ E=>?_) (λx b=>?_)
  .refine bl (λs=>0<=s.1.1/\s.1.1<=s.1.2/\s.1.2<=m.aj.length/\(-1073741824<=id/\id<=1073741824->(∀i(hi:i<m.aj.length),(i:Int)<s.1.1->m.aj[i].iD<id)/\∀i(hi:i<m.aj.length),s.1.2<=(i:Int)->¬m.aj[i].iD<id)) (λs=>(s.1.2-s.1.1).toNat) ⟨aH,aH,aH,λ_=>⟨λi hi h=>by grind,λi hi h=>by grind⟩⟩ (by grind) ?_;rintro rec ⟨⟨d,hi⟩,u⟩ ⟨l,t,G,f⟩ v;dsimp only at l t G f;refine aw (λa=>?_) (λa=>E _ ⟨l,by grind,λh=>⟨(f h).1,?_⟩⟩)
   .simp only[aV]at a;rw[aaP hN l t M];have b0:d<=(d+hi)/2:=M;have c0:(d+hi)/2<hi:=M;generalize(d+hi)/2=mid at*;refine bO b9 (aL M M λx b o=>?_);have w:=k x b;have d0:m.aj[mid.toNat]'M=x:=by obtain⟨_,h⟩:=cr.1 o;exact h
    simp only[aE];refine aw (λc=>?_) (λc=>?_)
    .simp only[aV]at c;rw[b7 (x:=mid+1) M M];refine v _ ⟨?_,?_,?_,λh=>⟨?_,(f h).2⟩⟩ ?_<;>dsimp only
     .omega
     .omega
     .omega
     .rw[b7 M M]at c;intro i z H;by_cases e:i=mid.toNat
      grind
      .have:=j i mid.toNat M M
       grind
     .omega
    .simp only[cP]at c;refine v _ ⟨?_,?_,?_,λh=>⟨(f h).1,?_⟩⟩ ?_<;>dsimp only
     .omega
     .omega
     .omega
     .rw[b7 M M]at c;intro i z H;by_cases e:i=mid.toNat
      grind
      .have:=j mid.toNat i M z
       grind
     .omega
   grind
  .obtain ⟨q,u⟩:=x;obtain⟨g,I,A⟩:=b;dsimp only at g I A;obtain⟨q,rfl⟩:=oR g;by_cases K:-1073741824<=id/\id<=1073741824
   .obtain ⟨L,P⟩:=A K;have Q:=at_end j (id:=id) (q:=q) M (λi hi h=>L i hi M) (λi hi h=>P i hi M);refine aw (λa=>?_) (λa=>ad ?_)
    .simp only[aV]at a;have R:q<m.aj.length:=M;refine aL g a λx b o=>?_;have w:=k x b;obtain rfl:m.aj[q]=x:=by simp_all
     rw[dif_pos R]at Q;simp only[aE];refine ad ?_;rw[b7 M M]
     grind
    grind
   .have S:IQ m id=-1:=DN λn e0 e=>by grind
    refine aw (λa=>?_) (λa=>ad S.symm);simp only[aV]at a;refine aL g a λx b o=>?_;have w:=k x b;simp only[aE];refine ad ?_;have:(IntKind.i64.wrap (x.iD-id)==0)=F:=by rw[qo];intro e;have:=QQ M M e;omega
    grind
 unfold Vw;refine aB B λy f0=>aw (λh=>ad ?_) λh=>ad ?_
 grind
 grind
end
theorem sF:(List.range n).any b=W↔∃i,i<n/\b i=W:=by grind
theorem jI:(List.range n).any b=F↔∀i,i<n->b i=F:=by grind
theorem nO{x:Ku}(a:ps[p]?=O x)(h:hP x.name=F∨4096<(x.value.length:Int)):ly ps p=W:=by
 obtain⟨hi,rfl⟩:=cr.1 a;unfold ly
 grind
theorem xj{x y:Ku}(a:ps[p]?=O x)(h0:0<p)(b:ps[p-1]?=O y):ly ps p=((!hP x.name||decide ((x.value.length:Int)>4096))||!Op.bytesLess y.name x.name):=by
 obtain⟨hi,rfl⟩:=cr.1 a;obtain⟨c,rfl⟩:=cr.1 b;unfold ly
 grind
theorem xk{x:Ku}(a:ps[0]?=O x):ly ps 0=(!hP x.name||decide ((x.value.length:Int)>4096)):=by
 obtain⟨hi,rfl⟩:=cr.1 a;unfold ly
 grind
theorem kO{ps:Z Rf}{x:Rf}(a:ps[p]?=O x)(h:hP x.role=F∨x.target<1∨next<=x.target):oI next ps p=W:=by
 obtain⟨hi,rfl⟩:=cr.1 a;unfold oI
 grind
theorem zY{ps:Z Rf}{x y:Rf}(a:ps[p]?=O x)(h0:0<p)(b:ps[p-1]?=O y):oI next ps p=(((!hP x.role||decide (x.target<1))||decide (x.target≥next))||!Op.bytesLess y.role x.role):=by
 obtain⟨hi,rfl⟩:=cr.1 a;obtain⟨c,rfl⟩:=cr.1 b;unfold oI
 grind
theorem zZ{ps:Z Rf}{x:Rf}(a:ps[0]?=O x):oI next ps 0=((!hP x.role||decide (x.target<1))||decide (x.target≥next)):=by
 obtain⟨hi,rfl⟩:=cr.1 a;unfold oI
 grind
section
variable{N:Nat}(hN:1073741824<=N)
include hN
theorem nP(d:n<=1048576){f:(Int×ab->V β)->Int×ab->V β}
  (step:∀rec(i:Nat),(b i=F->i<n->T (rec ((i+1:Nat),())) P)->(i=n->(∀j,j<n->b j=F)->T (f rec ((i:Int),())) P)/\(i<n->T (f rec ((i:Int),())) P)):T (aQ f N (0,())) P:=by
 refine bl (λs=>∃i:Nat,s.1=i/\i<=n/\∀j,j<i->b j=F) (λs=>n-s.1.toNat) ⟨0,rfl,M,λj a=>M⟩ (by grind) ?_;rintro rec ⟨p,u⟩ ⟨i,rfl,e,g⟩ c;obtain⟨h,k⟩:=step rec i λl hi=>c _ ⟨i+1,rfl,M,λj a=>by grind⟩ (by grind)
 grind
theorem Pj{n:Nd}(g:ra n){J:ab×ab->V β}{f:(Int×ab->V β)->Int×ab->V β}
  (j:∀rec p,f rec (p,())=bif decide (p<(n.bK.length:Int))then(ax n.bK p).bind λz=>(Du N z.role).bind λy=>bif !y then no else bif decide (z.target<1)then no else bif decide (m.next<=z.target)then no else bif decide (0<p)then(ax n.bK (IntKind.i64.wrap (p-1))).bind λq=>bif !(Op.bytesLess q.role z.role)then no else rec (IntKind.i64.wrap (p+1),())else rec (IntKind.i64.wrap (p+1),())else J ((),()))
  (r:mr m.next n.bK=F->T (J ((),())) P) (s:mr m.next n.bK=W->T no P):T (aQ f N (0,())) P:=by
 have t:=g.bK;refine nP hN t (b:=oI m.next n.bK) λrec i k=>⟨λhi u=>?_,λhi=>?_⟩
 .subst hi;rw[j];exact aw (λh=>by simp at h) λ_=>r (jI.2 u)
 .have d:oI m.next n.bK i=W->T no P:=λh=>s (sF.2 ⟨i,hi,h⟩);rw[j];refine aw (λ_=>?_) λh=>by grind
  refine aL M M λx v c=>aB (Ph hN x.role (g.YR x v)) λw A=>?_;simp at c;subst A;refine aw (λh=>d (kO c (.inl (by grind)))) λl=>aw (λh=>d (kO c (.inr (.inl (by grind))))) λo=>aw (λh=>d (kO c (.inr (.inr (by grind))))) λB=>?_;simp only[oa,cP]at l o B;have C:¬x.target≥m.next:=M;rw[sj M];refine aw (λa=>?_) (λa=>k ?_ hi)
  .simp only[aV]at a;rw[b7 M M];refine aL M M λy _ D=>?_;have e:=zY (next:=m.next) c M (by rw[(M:i-1=((i:Int)-1).toNat)];exact D);simp only[l,o,C,lM,fQ,IS,vz]at e;refine aw (λa=>d (e.trans a)) λa=>k (e.trans a) hi
  .have:i=0:=by grind
   grind [zZ]
theorem KW{n:Nd}(g:ra n){J:ab×ab->V β}{f:(Int×ab->V β)->Int×ab->V β}
  (j:∀rec p,f rec (p,())=bif decide (p<(n.bd.length:Int))then(ax n.bd p).bind λz=>(Du N z.name).bind λy=>bif !y then no else bif decide (4096<(z.value.length:Int))then no else bif decide (0<p)then(ax n.bd (IntKind.i64.wrap (p-1))).bind λo=>bif !(Op.bytesLess o.name z.name)then no else rec (IntKind.i64.wrap (p+1),())else rec (IntKind.i64.wrap (p+1),())else J ((),()))
  (q:kg n.bd=F->T (J ((),())) P) (r:kg n.bd=W->T no P):T (aQ f N (0,())) P:=by
 have s:=g.bd;refine nP hN s (b:=ly n.bd) λrec i k=>⟨λhi t=>?_,λhi=>?_⟩
 .subst hi;rw[j];exact aw (λh=>by simp at h) λ_=>q (jI.2 t)
 .have c:ly n.bd i=W->T no P:=λh=>r (sF.2 ⟨i,hi,h⟩);rw[j];refine aw (λ_=>?_) λh=>by grind
  refine aL M M λx u a=>aB (Ph hN x.name (g.name x u)) λw v=>?_;simp at a;subst v;refine aw (λh=>c (nO a (.inl (by grind)))) λl=>aw (λh=>c (nO a (.inr (by grind)))) λA=>?_;simp only[oa,cP,kC]at l A;have B:¬(x.value.length:Int)>4096:=M;rw[sj M];refine aw (λm=>?_) (λm=>k ?_ hi)
  .simp only[aV]at m;rw[b7 M M];refine aL M M λy _ C=>?_;have d:=xj a M (by rw[(M:i-1=((i:Int)-1).toNat)];exact C);simp only[l,B,lM,fQ,IS,vz]at d;refine aw (λe=>c (d.trans e)) λe=>k (d.trans e) hi
  .have:i=0:=by grind
   grind [xk]
theorem aiz(m:gB)(q:nn m)(n:Nd)(e:ra n):T (F40 N (m,n)) λr=>r=jG m n:=by
 have A:=e.aD;have B:=q.len;have l:kg n.bd=W->jG m n=F:=λh=>by simp[jG,h]
 have o:mr m.next n.bK=W->jG m n=F:=λh=>by simp[jG,h]
 have C:(n.cu==0)=decide (n.cu=0):=by grind
 have D:(n.role==[])=decide (n.role=[]):=by grind
 unfold F40;refine aB (Ph hN n.au e.au) λy s=>?_;subst s;refine aw (λh=>ad ?_) λt=>aw (λh=>ad ?_) λu=>?_
 grind [iB,jG]
 grind [decide,iB,jG]
 .have t:hP n.au=W:=by grind
  have u:(decide (n.cu=0)==decide (n.role=[]))=W:=by grind
  have E:(decide (n.role=[])||hP n.role)=W->T (bif decide ((m.aj.length:Int)<(n.aD.length:Int))then O F else O W) λr=>r=W->n.aD.length<=m.aj.length:=λ_=>aw (λ_=>ad aH) λh=>ad λ_=>by grind
  have p:(decide (n.role=[])||hP n.role)=W->n.aD.length<=m.aj.length->kg n.bd=F->mr m.next n.bK=F->jG m n=W:=λa b c d=>by grind [jG,decide_eq_true]
  have G:¬n.aD.length<=m.aj.length->jG m n=F:=λh=>by simp[jG,h]
  apply aw<;>intro h
  .refine aB (Ph hN n.role e.role) λw v=>?_;subst v;refine aw (λx=>ad ?_) λx=>aw (λg=>ad ?_) λg=>?_
   grind [decide,hP,iB,jG]
   grind
   .have i:n.aD.length<=m.aj.length:=by grind
    have a:(decide (n.role=[])||hP n.role)=W:=by grind
    refine aS (λ_=>kg n.bd=F) (λJ f=>KW hN e (λ_ _=>rfl) (λh=>f _ h) (λh=>ad (l h).symm)) (λ_ j=>aS (λ_=>mr m.next n.bK=F) (λJ f=>Pj hN e (m:=m) (λ_ _=>rfl) (λh=>f _ h) (λh=>ad (o h).symm)) (λ_ k=>ad (p a i j k).symm))
  .have z:n.role=[]:=by grind
   refine aw (λg=>ad ?_) λg=>?_
   grind
   .have i:n.aD.length<=m.aj.length:=by grind
    have a:(decide (n.role=[])||hP n.role)=W:=by rw[z];rfl
    refine aS (λ_=>kg n.bd=F) (λJ f=>KW hN e (λ_ _=>rfl) (λh=>f _ h) (λh=>ad (l h).symm)) (λ_ j=>aS (λ_=>mr m.next n.bK=F) (λJ f=>Pj hN e (m:=m) (λ_ _=>rfl) (λh=>f _ h) (λh=>ad (o h).symm)) (λ_ k=>ad (p a i j k).symm))
theorem aiA(m:gB)(t:zW m):T (F41 N m) λr=>r=if kB m=W then 0 else 29:=by
 have w:=t.sorted;have D0:=t.ok.len;have X:∀id,KT id->T (Vw N (m,id)) λr=>r=IQ m id:=λid L=>aaQ hN m w t.rj M id L;have no:kB m=F->T (O (29:Int)) λr=>r=if kB m=W then 0 else 29:=λh=>ad (by rw[h];rfl)
 have a0:¬vh m->kB m=F:=λh=>by simp[kB,h]
 unfold F41;refine bO (by grind [cq]) (aS (λs=>vh m/\s.1=DO m (m.aj.flatMap Nd.aD)) (λJ A=>?_) (λx c=>?_))
 .refine bl (λs=>0<=s.1.1/\s.1.1<=m.aj.length/\s.1.2=DO m ((m.aj.take s.1.1.toNat).flatMap Nd.aD)/\∀n∈m.aj.take s.1.1.toNat,∀k∈n.aD,sC m n k) (λs=>(m.aj.length-s.1.1).toNat) ⟨aH,aH,?_,aH⟩ (by grind) ?_
  .simp only[Int.toNat_zero,A9,List.flatMap_nil,DO];apply tE
   grind
  rintro rec ⟨⟨p,b0⟩,u⟩ ⟨G,l0,d,P⟩ m0;dsimp only at G l0 d P;refine aw (λa=>?_) (λa=>A _ ?_)
  .simp only[aV]at a;refine aS (λs=>s.1=DO m ((m.aj.take (p.toNat+1)).flatMap Nd.aD)/\∀n∈m.aj.take (p.toNat+1),∀k∈n.aD,sC m n k) (λn0 Q=>?_) (λx c=>m0 _ ⟨?_,?_,?_,?_⟩ ?_)
   .refine aL G a λn o E0=>?_;have c0:=t.ok.node n o;have G0:=c0.aD;have o0:p.toNat<m.aj.length:=M;have p0:m.aj[p.toNat]=n:=by grind
    have H0:m.aj.take (p.toNat+1)=m.aj.take p.toNat++[n]:=by grind [xv]
    have q0:=Gf o0;rw[p0]at q0;have I0:=QR t.ok p.toNat;refine bl (λs=>0<=s.1.1/\s.1.1<=n.aD.length/\s.1.2=DO m ((m.aj.take p.toNat).flatMap Nd.aD++n.aD.take s.1.1.toNat)/\∀k∈n.aD.take s.1.1.toNat,sC m n k) (λs=>(n.aD.length-s.1.1).toNat) ⟨aH,aH,by simp[d],aH⟩ (by grind) ?_;rintro r0 ⟨⟨q,s0⟩,J0⟩ ⟨d0,t0,H,u0⟩ R;dsimp only at d0 t0 H u0;refine aw (λI=>?_) (λI=>Q _ ⟨?_,?_⟩)
    .simp only[aV]at I;refine aL d0 I λk v S=>aB (X k (c0.kid k v)) λy K=>?_;subst K;have f0:n.aD.take (q.toNat+1)=n.aD.take q.toNat++[k]:=by
      obtain⟨hi,rfl⟩:=cr.1 S
      grind [xv]
     rcases sA w k with⟨e,K0⟩|⟨i,hi,e,L⟩
     .rw[e];refine no (a0 λh=>?_);obtain⟨x,c,w0,_⟩:=h n o k v
      grind
     .rw[e];refine aw (λh=>by grind) λ_=>?_;have B:ax m.aj (i:Int)=O m.aj[i]:=dq hi;have C:ax s0 (i:Int)=O ((((m.aj.take p.toNat).flatMap Nd.aD++n.aD.take q.toNat).count m.aj[i].iD:Nat):Int):=by rw[qf,H,KU _ hi]
      have L0:((m.aj.take p.toNat).flatMap Nd.aD++n.aD.take q.toNat).count m.aj[i].iD<=4611686018427387904:=by grind [Nat.le_trans,List.count_le_length,jf,List.length_take,Nat.mul_le_mul_right]
      simp only[B,C,aE];refine aw (λh=>no (a0 λh'=>?_)) λN0=>R _ ⟨?_,?_,?_,?_⟩ ?_
      .obtain ⟨x,c,w0,P0⟩:=h' n o k v
       grind [jH,fR]
      grind [b7]
      grind [b7]
      .dsimp only;rw[b7 (x:=q+1) M M,(M:(q+1).toNat=q.toNat+1),f0,<-y7,hx,H,b7 M M];have:=UH w ((m.aj.take p.toNat).flatMap Nd.aD++n.aD.take q.toNat) hi
       grind
      .dsimp only;rw[b7 M M,(M:(q+1).toNat=q.toNat+1),f0];intro k' S;rcases fK.1 S with h|h
       grind
       .simp at h;subst h;exact⟨m.aj[i],fR hi,L,by grind⟩
      .dsimp only;rw[b7 M M];omega
    .simp only[cP,kC]at I;rw[de (l:=n.aD) M]at H
     grind
    grind [cP,kC,de]
   grind [b7]
   grind [b7]
   grind [b7]
   grind [b7]
   grind [b7]
  .simp only[cP,kC]at a;rw[de M]at d P;exact⟨P,d⟩
 .obtain ⟨b0,u⟩:=x;obtain⟨v,g0⟩:=c;dsimp only at g0;have h0:∀i(hi:i<m.aj.length),lz m m.aj[i]=F->kB m=F:=λi hi h=>by grind [lz,di,fR,kB]
  refine aS (λ_=>m.aj.all (lz m)=W) (λJ A=>?_) (λ_ i0=>?_)
  .refine nP hN (n:=m.aj.length) M (b:=λi=>!((m.aj[i]?).map (lz m)).getD W) λrec i j0=>⟨λhi x0=>?_,λhi=>?_⟩
   .subst hi;refine aw (λh=>by simp at h) λ_=>A _ ?_;rw[di];intro n o;obtain⟨j,D,rfl⟩:=hB o
    grind
   .have B:ax m.aj (i:Int)=O m.aj[i]:=dq hi;have C:ax b0 (i:Int)=O (((m.aj.flatMap Nd.aD).count m.aj[i].iD:Nat):Int):=by rw[qf,g0,KU _ hi]
    refine aw (λ_=>?_) λh=>by grind
    simp only[B,C,aE];rw[sj M];have k0:lz m m.aj[i]=W->T (rec (((i+1:Nat):Int),())) λr=>r=if kB m=W then 0 else 29:=λh=>j0 (by grind) hi
    refine aw (λE=>aw (λh=>no (h0 i hi ?_)) λh=>aw (λh'=>?_) λ_=>k0 ?_) λE=>aw (λ_=>aw (λh=>no (h0 i hi ?_)) λh=>k0 ?_) λh'=>?_
    .have E:m.aj[i].cu=0:=by grind
     have h:(m.aj.flatMap Nd.aD).count m.aj[i].iD≠0:=by grind
     unfold lz;grind
    grind
    .have E:m.aj[i].cu=0:=by grind
     have h:(m.aj.flatMap Nd.aD).count m.aj[i].iD=0:=by grind
     unfold lz;grind
    .have E:¬m.aj[i].cu=0:=by grind
     have h:(m.aj.flatMap Nd.aD).count m.aj[i].iD≠1:=by grind
     unfold lz;grind
    .have E:¬m.aj[i].cu=0:=by grind
     have h:(m.aj.flatMap Nd.aD).count m.aj[i].iD=1:=by grind
     unfold lz;grind
    grind
  .have Q0:kB m=m.aj.all (h5 m 64):=by simp[kB,v,i0]
   refine aS (λ_=>m.aj.all (h5 m 64)=W) (λJ A=>?_) (λ_ h=>ad (by grind));refine nP hN (n:=m.aj.length) M (b:=λi=>!((m.aj[i]?).map (h5 m 64)).getD W) λrec i j0=>⟨λhi x0=>?_,λhi=>?_⟩
   .subst hi;refine aw (λh=>by simp at h) λ_=>A _ ?_;rw[di];intro n o;obtain⟨j,D,rfl⟩:=hB o
    grind
   .have B:ax m.aj (i:Int)=O m.aj[i]:=dq hi;refine aw (λ_=>?_) λh=>by grind
    refine aS (λ_=>h5 m 64 m.aj[i]=W) (λn0 Q=>?_) (λ_ h=>?_)
    .simp only[B,aE];refine aS (λ_=>h5 m 64 m.aj[i]=F) (λR0 y0=>?_) (λ_ h=>no ?_)
     .refine bl (λs=>∃f:Nat,f<=64/\s.1.1=65-(f:Int)/\∃x∈m.aj,x.cu=s.1.2.2.2.1/\h5 m 64 m.aj[i]=h5 m f x) (λs=>(65-s.1.1).toNat) ⟨64,M,aH,_,fR hi,rfl,rfl⟩ (by grind) ?_;rintro r0 ⟨⟨p,S0,T0,U0,X0,b1,c1,d1⟩,u⟩ ⟨f,f1,G,x,c,d,U⟩ R;dsimp only at G d;subst d;refine aw (λa=>?_) (λa=>y0 _ ?_)
      .simp only[aV]at a;obtain⟨f,rfl⟩:∃g,f=g+1:=⟨f-1,M⟩
       refine aw (λh=>Q _ ?_) λh=>?_
       .have h:x.cu=0:=by grind
        rw[U,h5,aq h]
       .have h:¬x.cu=0:=by grind
        obtain⟨y,K,_⟩:=xi w v i0 x c h;obtain⟨A0,B0⟩:=gT K;obtain⟨j,D,rfl⟩:=hB A0;refine aB (X x.cu (t.ok.node x c).cu) λz C0=>?_;have:z=(j:Int):=by rw[C0,<-B0];exact lx w D
        subst this;have C:ax m.aj (j:Int)=O m.aj[j]:=dq D;simp only[C,aE];refine R _ ⟨f,M,?_,m.aj[j],fR D,rfl,?_⟩ ?_
        grind [b7]
        .rw[U,h5,ao h,K]
        grind [b7]
      .simp only[cP]at a;have:f=0:=M;subst this;rw[U];rfl
     grind
    grind [sj,cX]
end
def Iy(m:gB)(i:Nat)(hi:i<m.aj.length):Prop:=vj m i<m.aj[i].iD/\m.aj[i].iD<m.next/\jG m m.aj[i]=W
theorem vk(hi:i<m.aj.length)(h:0<i):vj m i=(m.aj[i-1]'M).iD:=by
 unfold vj
 grind
theorem sG(m:gB):vj m 0=0:=by unfold vj;grind
theorem yU(b:nn m)(hi:i<m.aj.length)(h:¬Iy m i hi):dE m=F:=by
 cases e:dE m with
 |false=>rfl|true=>
  exfalso;have c:=mP b e;have a:=sE c;unfold dE at e;rw[aP,aP]at e;obtain⟨_,d,f⟩:=e;obtain⟨g,j⟩:=Ix d;rw[f,aP]at a;have k:=di.1 a.1 _ (fR hi);have l:=j _ (fR hi);refine h ⟨?_,M,k⟩;by_cases h0:0<i
  .rw[vk hi h0];exact g (i-1) i M hi
  grind [sG]
theorem Nr(c:nn m)(l:pu m=W)(a:∀i(hi:i<m.aj.length),Iy m i hi):zW m/\dE m=kB m:=by
 have d:∀i(hi:i<m.aj.length),1<=m.aj[i].iD:=by
  intro i;induction i with
  |zero=>intro hi;have:=(a 0 hi).1;rw[sG]at this;omega|succ i o=>
   intro hi;have p:=(a (i+1) hi).1
   grind [vk,Nat.add_sub_cancel]
 have e:Iw m=W:=by
  unfold Iw;rw[iB,ER];intro i hi;have hi:=uf.1 hi;obtain⟨f,q,_⟩:=a i hi;have:=d i hi;unfold ub;simp only[hi,dif_pos,lC,aV,not_or];refine⟨⟨M,M⟩,?_⟩;by_cases h0:0<i
  .rw[vk hi h0]at f
   grind
  .simp[h0]
 obtain⟨g,r⟩:=Ix e;have s:m.next<=1048577:=by grind [pu,iB,Bool.or_eq_false_iff,cP]
 have h:zW m:=⟨c,g,λn b=>by grind⟩
 have j:=sE h;have k:m.aj.all (jG m)=W:=di.2 λn b=>by obtain⟨i,hi,rfl⟩:=hB b;exact(a i hi).2.2
 rw[k,lD]at j
 grind [dE]
section
variable{N:Nat}(hN:1073741824<=N)
include hN
theorem aaR(m:gB)(a:nn m):T (Gy N m) λr=>r=if dE m=W then 0 else 29:=by
 have w:=a.len;have no:dE m=F->T (O (29:Int)) λr=>r=if dE m=W then 0 else 29:=λh=>ad (by rw[h];rfl)
 have x:pu m=F->dE m=F:=λh=>by simp[dE,h]
 unfold Gy;refine aw (λh=>no ?_) λz=>aw (λh=>no ?_) λA=>aw (λh=>no ?_) λB=>?_
 grind [pu]
 grind [pu,decide]
 grind
 .have C:pu m=W:=by grind [pu,decide]
  refine aS (λ_=>∀i(hi:i<m.aj.length),Iy m i hi) (λJ k=>?_) (λ_ b=>?_)
  .refine bl (λs=>∃i:Nat,s.1.2=i/\i<=m.aj.length/\s.1.1=vj m i/\∀j(c:j<m.aj.length),j<i->Iy m j c) (λs=>m.aj.length-s.1.2.toNat) ⟨0,rfl,M,(sG m).symm,λj c h=>M⟩ (by grind) ?_;rintro rec ⟨⟨D,p⟩,u⟩ ⟨i,d,E,f,l⟩ n;dsimp only at d f;subst d f;refine aw (λg=>?_) (λg=>k _ λj c=>l j c ?_)
   .simp only[aV]at g;have hi:i<m.aj.length:=M;have o:ax m.aj (i:Int)=O m.aj[i]:=dq hi;simp only[o,aE];refine aw (λh=>no (yU a hi λb=>?_)) λq=>aw (λh=>no (yU a hi λb=>?_)) λt=>aB (aiz hN m a _ (a.node _ (fR hi))) λy v=>?_
    .simp only[aV]at h;have:=b.1;omega
    .simp only[aV]at h;have:=b.2.1;omega
    .subst v;simp only[cP]at q t;refine aw (λh=>no (yU a hi λb=>by rw[b.2.2]at h;cases h)) λG=>n _ ⟨i+1,?_,M,?_,λj c H=>?_⟩ ?_
     .dsimp only;rw[sj M]
     .dsimp only;unfold vj
      grind
     .by_cases e:j=i
      .subst e;exact⟨M,M,by grind⟩
      grind
     grind [sj]
   grind
  grind [Nr,aB,aiA,ad]
theorem adL(l:Z Ku)(a:l.length<=1048576):T (aai N l) λr=>r=l:=su M M
theorem adM(l:Z Rf)(a:l.length<=1048576):T (aaj N l) λr=>r=l:=su M M
theorem aiB(n:Nd)(a:ra n):T (F45 N n) λr=>r=n:=by have b:=a.bd;have c:=a.bK;have d:=a.aD;unfold F45;refine aB (adL hN n.bd b) λy e=>aB (adM hN n.bK c) λz f=>bO (by grind [cq]) (ad ?_);simp_all
theorem aiC(m:gB)(a:nn m)(id:Int)(g:KT id):T (F18 N (m,id)) λr=>r=Gg m id:=by
 have p:=a.len;unfold F18;refine aB (aaR hN m a) λy b=>?_;cases e:dE m with
 |false=>rw[e]at b;subst b;exact ad (by simp only[Gg,e];rfl)|true=>
  rw[e]at b;subst b;have f:=mP a e;have c:=f.sorted;refine aB (aaQ hN m c f.rj M id g) λz j=>?_;subst j;rcases sA c id with⟨d,k⟩|⟨i,hi,d,l⟩
  .rw[d];refine ad ?_;simp only[Gg,e,cm];rw[sD k];rfl
  .rw[d];have n:ax m.aj (i:Int)=O m.aj[i]:=dq hi;refine aw (λ_=>?_) λh=>by simp at h
   simp only[n,aE];refine aB (aiB hN _ (a.node _ (fR hi))) λw o=>ad ?_;subst o;simp only[Gg,e,cm];rw[<-l,gx c hi]
end
def jV(m:gB)(id:Int):Z Int:=match cE m id with
 |some n=>n.aD|none=>[]
def gr(m:gB):Nat->Int->Z Int
 |0,_=>[]|d+1,id=>(jV m id).flatMap λk=>k::gr m d k
theorem KX:∀{l s:Z Int},l.Nodup->(∀x∈l,x∈s)->l.length<=s.length
 |[],s,_,_=>aH|x::l,s,h,a=>by
  obtain⟨b,c⟩:=oc.1 h;have f:=a x aH;have:=KX (s:=s.erase x) c λy d=>(List.mem_erase_of_ne (λe=>b (by grind))).2 (a y (by simp[d]))
  grind
structure QT(m:gB):Prop where
 ready:zW m
 aD:∀n∈m.aj,∀k∈n.aD,sC m n k
 aiD:∀n∈m.aj,n.aD.Nodup
 YT:∀n∈m.aj,h5 m 64 n=W
theorem AS(f:nn m)(h:dE m=W):QT m:=by
 have c:=mP f h;have d:=sE c;have e:(m.aj.all λn=>(nN m n&&jk m n)&&fx m 64 n)=W:=by
  unfold dE at h
  grind
 rw[e,aP]at d;have a:=d.2;unfold kB at a;rw[aP,aP]at a;refine⟨c,e4 a.1,λn b=>?_,λn b=>di.1 a.2.2 n b⟩;have:=di.1 e n b;rw[aP,aP]at this;exact(e4 this.1.2).2
section
variable{m:gB}(hT:QT m)
include hT
theorem rb{id:Int}(h:k∈jV m id):∃n x,cE m id=O n/\n∈m.aj/\n.iD=id/\k∈n.aD/\cE m k=O x/\x∈m.aj/\x.iD=k/\x.cu=id:=by
 unfold jV at h;split at h
 .rename_i n a;obtain⟨b,d⟩:=gT a;obtain⟨x,c,e,f⟩:=hT.aD n b k h;obtain⟨i,hi,rfl⟩:=hB c;have:=gx hT.ready.sorted hi
  grind
 .cases h
theorem DS(c:A.Nodup):(A.flatMap (jV m)).Nodup:=by
 unfold List.Nodup;rw[List.pairwise_flatMap];refine⟨λa d=>?_,?_⟩
 .unfold jV;split
  .rename_i n b;exact hT.aiD n (gT b).1
  simp_all
 grind [List.Pairwise.imp,rb]
theorem XK(a:A.Nodup):(A.flatMap (jV m)).length<=m.aj.length:=by
 have:=KX (s:=m.aj.map Nd.iD) (DS hT a) λx b=>by grind [rb]
 grind
omit hT in
theorem QU(K:Z Int)(g:Int->Z Int):(K.flatMap λk=>k::g k).length=K.length+(K.flatMap g).length:=by
 induction K with
 |nil=>rfl|cons k K a=>grind
theorem UN:∀(d:Nat){A:Z Int},A.Nodup->(A.flatMap (gr m d)).length<=d*m.aj.length
 |0,A,_=>by
  have:A.flatMap (gr m 0)=[]:=by
   induction A with
   |nil=>rfl|cons a A c=>rw[tF];exact c (by grind)
  grind
 |d+1,A,b=>by
  have e:A.flatMap (gr m (d+1))=(A.flatMap (jV m)).flatMap λk=>k::gr m d k:=by rw[List.flatMap_assoc];rfl
  rw[e,QU];have f:=XK hT b;have g:=UN d (DS hT b)
  grind
theorem Iz(d:Nat)(id:Int):(gr m d id).length<=d*m.aj.length:=by
 have:=UN hT d (A:=[id]) aH
 grind
end
section
variable{N:Nat}(hN:1073741824<=N)
include hN
theorem KY(hT:QT m)(hi:i<m.aj.length):Vw N (m,m.aj[i].iD)=O (i:Int):=by have c:=hT.ready.rj _ (fR hi);have d:=hT.ready.ok.len;obtain⟨r,a,b⟩:=aaQ hN m hT.ready.sorted hT.ready.rj M m.aj[i].iD (by grind);rw[a,b,lx hT.ready.sorted hi]
structure Acc(h g:Hp)(j:Nat)(acc:List Int):Prop where
 fr:∃A B,g={h with EG:=A,Dn:=B}
 cell:∃e,g.EG[j]?=O e/\gH g.Dn e=O acc
omit hN in
theorem IA{g:Int->Z Int}(l:Z Int)(p:Nat):((l.take p).flatMap g).length<=(l.flatMap g).length:=by grind [A7,jf]
theorem Pk{m:gB}(hT:QT m)(h:Hp)(j:Nat):∀(d l:Nat)(n:Nd)(g:Hp)(acc:Z Int)(K:Nat),l+d=64->n∈m.aj->h5 m l n=F->Acc h g j acc->(acc++gr m d n.iD).length<=1048576->d<=K->
  T (Dp N m (O j) (K+1) n.iD g) λr=>Acc h r.2 j (acc++gr m d n.iD)
 |0,l,n,g,acc,K,he,a,D,E,f,G=>by
  have g0:=hT.YT n a
  grind
 |d+1,l,n,g,acc,K,he,a,D,E,f,G=>by
  obtain⟨i,hi,q⟩:=hB a;have t:=KY hN hT hi;rw[q]at t;have H:ax m.aj (i:Int)=O n:=by rw[dq hi,q]
  have I:jV m n.iD=n.aD:=by
   have:=gx hT.ready.sorted hi
   grind [jV]
  have J:gr m (d+1) n.iD=n.aD.flatMap λk=>k::gr m d k:=by show(jV m n.iD).flatMap _=_;rw[I]
  rw[J]at f⊢;have h0:=(hT.ready.ok.node n a).aD;obtain⟨c,rfl⟩:∃c,K=c+1:=⟨K-1,M⟩
  show T (Wn N (n.iD,m,O j,Dp N m (O j) (c+1)) g) _;unfold Wn;simp only[t,aE,H];refine bl (λs=>0<=s.1/\s.1<=n.aD.length/\Acc h s.2 j (acc++(n.aD.take s.1.toNat).flatMap λk=>k::gr m d k)) (λs=>(n.aD.length-s.1).toNat) ⟨aH,aH,by grind⟩ (by grind) ?_;rintro rec ⟨p,g⟩ ⟨u,L,o⟩ P;dsimp only at u L o⊢;apply a6<;>intro Q
  .refine aL u Q λk i0 R=>?_;have e1:n.aD.take (p.toNat+1)=n.aD.take p.toNat++[k]:=by obtain⟨j0,rfl⟩:=cr.1 R;simp_all
   have v:=IA (g:=λk=>k::gr m d k) n.aD (p.toNat+1);rw[e1,IU,jf]at v;simp only[tF,List.flatMap_nil,ES,ie]at v;rw[jf]at f;obtain⟨A,B,k0⟩:=o.fr;obtain⟨e,S,U⟩:=o.cell;obtain⟨l0,x,_,_,_,_,m0,X,a0,n0⟩:=rb hT (id:=n.iD) (k:=k) (by grind);simp only[aE,S,U];refine bO (cq (by grind) (by grind)) ?_;refine iv λw q1=>bO aH (iv λb0 o0=>?_);have z:b0.EG[j]?=O e:=by grind
   simp only[z,aE];refine iv λb p0=>?_;have c0:h5 m (l+1) x=F:=by
    have q0:=(hT.ready.rj n a).1;have r0:cE m n.iD=O n:=by
     have:=gx hT.ready.sorted hi
     grind
    unfold h5
    grind
   have d0:Acc h b j (acc++(n.aD.take p.toNat).flatMap (λk=>k::gr m d k)++[k]):=by
    have s0:=(cr.1 z).1;have e0:b.Dn=iK g.Dn e++[O (acc++(n.aD.take p.toNat).flatMap (λk=>k::gr m d k)++[k])]:=by grind
    have f0:w.Dn=iK g.Dn e:=by rw[q1]
    refine⟨⟨b.EG,b.Dn,by grind⟩,O (w.Dn.length,(acc++(n.aD.take p.toNat).flatMap (λk=>k::gr m d k)++[k]).length),by grind,?_⟩;rw[e0,f0];exact aaM _ _ _
   have C:=Pk hT h j d (l+1) x b _ c M X c0 d0 (by grind) M;rw[a0]at C;refine aB C λy t0=>P _ ⟨?_,?_,?_⟩ ?_<;>dsimp only<;>rw[b7 M M]
   .omega
   .omega
   .rw[(M:(p+1).toNat=p.toNat+1),e1,IU]
    grind
   .omega
  grind [de,ad]
theorem adN(c:nn m)(b:dE m=W)(l:m.aj.length<=60)(hi:i<m.aj.length)(h:Hp):T (W1 N (m,m.aj[i].iD) h) λr=>r.1=gr m 64 m.aj[i].iD/\r.2={h with EG:=r.2.EG,Dn:=r.2.Dn}:=by
 have hT:=AS c b;have f:=KY hN hT hi;have n:=Iz hT 64 m.aj[i].iD;unfold W1;refine aB (aaR hN m c) λy a=>?_;rw[aq b]at a;subst a;simp only[kn,fQ,aX,f,aE];refine aw (λh=>by grind) λ_=>?_;unfold TB;dsimp only;refine aB (Q:=λr=>r.1=gr m 64 m.aj[i].iD/\r.2={h with EG:=r.2.EG,Dn:=r.2.Dn}) ?_ λr b=>ad b;refine iv λd q1=>?_;obtain⟨K,rfl⟩:∃K,N=K+1:=⟨N-1,M⟩
 have g:Acc h d h.EG.length []:=⟨⟨_,_,by rw[q1]⟩,⟨Y,by grind,rfl⟩⟩
 have j:=Pk hN hT h h.EG.length 64 0 m.aj[i] d [] K rfl (fR hi) rfl g (by grind) M;refine aB j λy a=>?_;rw[pw]at a;obtain⟨⟨A,B,o⟩,e,e2,k⟩:=a;simp only[aE,e2,k];refine iv λp q=>ad ⟨rfl,?_⟩
 grind
end
inductive Rs(α:Type)where
 |ka (e:Int)
 |ok (a:α) (l:Int)
def Rs.bind {α β:Type}:Rs α->(α->Int->Rs β)->Rs β
 |.ka e,_=>.ka e|.ok a l,f=>f a l
structure Gd where
 E:List cY
 m:gB
 self:Int
 β:X.bP->X.bP->Bool
variable{G:Gd}
def YU:Va->Int->Rs Int
 |.vi n,l=>.ok n l|_,_=>.ka 90
def KZ:Va->Int->Rs aa
 |.vb n,l=>.ok n l|_,_=>.ka 90
def UO:Va->Int->Rs (Z Int)
 |.vl n,l=>.ok n l|_,_=>.ka 90
def Lv(G:Gd):Va->Int->Rs Nd
 |.vn id,l=>match cE G.m id with
  |some x=>.ok x l|none=>.ka 102
 |_,_=>.ka 90
def uc(env:Z jT)(s:X.bP):V Int:=(env.reverse.find? λv=>v.name==s).map jT.node
def Gh(G:Gd)(n:cY)(env:Z jT)(l:Int):Rs Va:=
 if n.kind=1 then .ok (.vi n.int) l else if n.kind=2 then .ok (.vt n.text) l else if n.kind=3 then .ok (.vb W) l else if n.kind=4 then .ok (.vb F) l
 else if n.kind=5 then .ok (.vn G.self) l else if n.kind=6 then .ok (.vn 0) l else match uc env n.text with
  |some i=>.ok (.vn i) l|none=>.ka 91
def re(G:Gd)(k:Int):X.bP:=((cE G.m k).map Nd.role).getD []
def fk(G:Gd)(k:Int):X.bP:=((cE G.m k).map Nd.au).getD []
def tw(p:Int->aa):Z Int->Z Int->Int->Rs Va
 |[],a,l=>.ok (.vl a) l|k::b,a,l=>if l=0 then .ka 100 else tw p b (if p k=W then a++[k]else a) (l-1)
def QV(G:Gd)(n:cY)(x:Nd)(l:Int):Rs Va:=
 if n.kind=8 then .ok (.vt (((x.bd.find? λp=>p.name==n.text).map Ku.value).getD [])) l
 else if n.kind=9 then .ok (.vl (x.aD.filter λk=>re G k==n.text)) l
 else if n.kind=10 then .ok (.vn (((x.bK.find? λr=>r.role==n.text&&(cE G.m r.target).isSome).map Rf.target).getD 0)) l
 else if n.kind=11 then .ok (.vn x.cu) l
 else if n.kind=12 then .ok (.vb (G.β x.au n.text)) l
 else tw (λk=>G.β (fk G k) n.text) (gr G.m 64 x.iD) [] l
def Pl(G:Gd)(k:Int)(v:Va)(l:Int):Rs Va:=
 if k=14 then(UO v l).bind λxs l=>.ok (.vi xs.length) l
 else if k=15 then(UO v l).bind λxs l=>.ok (.vn (xs.head?.getD 0)) l
 else if k=16 then(YU v l).bind λn l=>.ok (.vt (Lib.itoa n)) l
 else if k=17 then(Lv G v l).bind λx l=>.ok (.vt x.au) l
 else if k=18 then(Lv G v l).bind λx l=>.ok (.vi x.iD) l
 else match v with
  |.vt s=>match X.nw s with
   |some n=>.ok (.vi n) l|none=>.ka 103
  |_=>.ka 90
def Pm(k:Int)(a:Z Int)(b:Int):Va:=if k=31 then .vb F else if k=32 then .vb W else if k=33 then .vl a else .vi b
def kP(f:Int->Int->Rs Va)(k:Int):Z Int->Z Int->Int->Int->Rs Va
 |[],a,c,l=>.ok (Pm k a c) l|x::xs,a,c,l=>if l=0 then .ka 100 else(f x (l-1)).bind λv l=>
  if k=34 then(YU v l).bind λn l=>if cG (c+n)then kP f k xs a (c+n) l else .ka 101
  else(KZ v l).bind λb l=>
   if k=31/\b=W then .ok (.vb W) l else if k=32/\b=F then .ok (.vb F) l
   else kP f k xs (if k=33/\b=W then a++[x]else a) c l
def je(f:Int->Z jT->Int->Rs Va)(n:cY)(j:Nat)(env:Z jT)(l:Int):Rs Va:=match n.aD[j]? with
 |some k=>f k env l|none=>.ka 0
def DT(G:Gd)(f:Int->Z jT->Int->Rs Va)(n:cY)(env:Z jT)(l:Int):Rs Va:=
 if n.kind<=7 then Gh G n env l
 else if n.kind<=13 then(je f n 0 env l).bind λv l=>(Lv G v l).bind λx l=>QV G n x l
 else if n.kind<=19 then(je f n 0 env l).bind λv l=>Pl G n.kind v l
 else if n.kind<=26 then(je f n 0 env l).bind λa l=>(je f n 1 env l).bind λb l=>match h8 n.kind a b with
  |.error e=>.ka e|.ok v=>.ok v l
 else if n.kind<=28 then(je f n 0 env l).bind λv l=>(KZ v l).bind λb l=>if b=(n.kind==28)then .ok (.vb b) l else(je f n 1 env l).bind λv l=>(KZ v l).bind λc l=>.ok (.vb c) l
 else if n.kind=29 then(je f n 0 env l).bind λv l=>(KZ v l).bind λb l=>.ok (.vb !b) l
 else if n.kind=30 then(je f n 0 env l).bind λv l=>(KZ v l).bind λb l=>je f n (if b=W then 1 else 2) env l
 else(je f n 0 env l).bind λv l=>(UO v l).bind λxs l=>kP (λx l=>je f n 1 (env++[⟨n.text,x⟩]) l) n.kind xs [] 0 l
def La(G:Gd):Nat->Int->Z jT->Int->Rs Va
 |0,_,_,_=>.ka 0|d+1,i,env,l=>if l=0 then .ka 100 else match G.E[i.toNat]? with
  |some n=>DT G (La G d) n env (l-1)|none=>.ka 0
structure tx(G:Gd):Prop where
 ready:zW G.m
 Gi:G.m.aj.length<=60
 nd:∀x∈G.m.aj,x.au.length<=1048576/\(∀p∈x.bd,p.value.length<=1048576)/\x.aD.length<=1048576
 pre:∀x∈G.m.aj,(gr G.m 64 x.iD).length<=1048576
 en:∀n∈G.E,n.text.length<=1048576/\cG n.int
def mQ(l0:Int):Rs Va->Prop
 |.ka _=>True|.ok v l=>v.Ok/\0<=l/\l<=l0
def oJ{d:Int}(h:l0<=d):∀{r:Rs Va},mQ l0 r->mQ d r
 |.ka _,_=>trivial|.ok v l,⟨a,b,c⟩=>⟨a,b,M⟩
def eW{r:Rs α}{f:α->Int->Rs Va}(h:∀a l,r=.ok a l->mQ l0 (f a l)):mQ l0 (r.bind f):=by
 cases r with
 |ka e=>trivial|ok a l=>exact h a l rfl
theorem DU{v:Va}{n:Int}(h:YU v l=.ok n l'):v=.vi n/\l'=l:=by
 cases v<;>simp[YU]at h
 grind
theorem yV{v:Va}{n:aa}(h:KZ v l=.ok n l'):v=.vb n/\l'=l:=by
 cases v<;>simp[KZ]at h
 grind
theorem vm{v:Va}{n:Z Int}(h:UO v l=.ok n l'):v=.vl n/\l'=l:=by
 cases v<;>simp[UO]at h
 grind
theorem yW{v:Va}{x:Nd}(h:Lv G v l=.ok x l'):(∃id,v=.vn id/\cE G.m id=O x)/\l'=l:=by
 unfold Lv at h
 grind
def UP{n:Int}(h:cG n):(Lib.itoa n).length<=1048576:=by have:=Lib.itoa_length_le n h.1 h.2;omega
theorem aaS{b v:Va}(h:h8 k a b=.ok v):v.Ok:=by
 unfold h8 at h;split at h
 .split at h
  .split at h
   .split at h
    grind
    .cases h;show(_++_:Z bc).length<=_
     grind
   grind
  .split at h
   .rename_i q;cases h;exact q
   grind
  grind
 .split at h
  .split at h<;>cases h<;>trivial
  .split at h<;>cases h<;>trivial
theorem Pn{p:Int->aa}:∀(a acc:Z Int)(l:Int),0<=l->acc.length+a.length<=1048576->mQ l (tw p a acc l)
 |[],acc,l,b,h=>⟨by show acc.length<=_;grind,b,gY l⟩|k::a,acc,l,b,h=>by
  unfold tw;split
  .trivial
  .refine oJ M (Pn a _ (l-1) M ?_)
   grind
theorem DV{f:Int->Int->Rs Va}{k:Int}(c:∀x l,0<=l->mQ l (f x l)):∀(xs acc:Z Int)(sum l:Int),0<=l->cG sum->acc.length+xs.length<=1048576->mQ l (kP f k xs acc sum l)
 |[],acc,sum,l,e,hs,h=>by
  refine⟨?_,e,gY l⟩;unfold Pm;split
  .trivial
  split
  .trivial
  split
  .show acc.length<=_
   grind
  .exact hs
 |x::xs,acc,sum,l,e,hs,h=>by
  simp only[ie]at h;unfold kP;split
  .trivial
  .refine eW λv m g=>?_;have:=c x (l-1) M;rw[g]at this;obtain⟨q1,a,o⟩:=this;split
   .refine eW λn i d=>?_;obtain⟨rfl,rfl⟩:=DU d;split
    .rename_i j;exact oJ M (DV c xs acc _ _ a j M)
    .trivial
   .refine eW λb i d=>?_;obtain⟨rfl,rfl⟩:=yV d;split
    .exact ⟨trivial,a,M⟩
    split
    .exact ⟨trivial,a,M⟩
    .refine oJ M (DV c xs _ sum _ a hs ?_)
     grind
theorem UQ(t:tx G){f:Int->Z jT->Int->Rs Va}(E:∀i env l,0<=l->mQ l (f i env l)){n:cY}(A:n∈G.E)(env:Z jT)(l:Int)(k:0<=l):mQ l (DT G f n env l):=by
 obtain⟨B,hi⟩:=t.en n A;have y:∀j env l,0<=l->mQ l (je f n j env l):=λj env l k=>by
  unfold je;split
  grind
  .trivial
 have o:∀{j:Nat}{env:Z jT}{l:Int}{g:Va->Int->Rs Va},0<=l->(∀v l',v.Ok->0<=l'->l'<=l->mQ l' (g v l'))->mQ l ((je f n j env l).bind g):=λ{j env l g} k h=>eW λv l' e=>by have:=y j env l k;rw[e]at this;exact oJ this.2.2 (h v l' this.1 this.2.1 this.2.2)
 unfold DT;split
 .unfold Gh;split;·exact ⟨hi,k,gY l⟩
  split;·exact ⟨B,k,gY l⟩
  split;·exact ⟨trivial,k,gY l⟩
  split;·exact ⟨trivial,k,gY l⟩
  split;·exact ⟨trivial,k,gY l⟩
  split;·exact ⟨trivial,k,gY l⟩
  split
  .exact ⟨trivial,k,gY l⟩
  .trivial
 split
 .refine o k λv q hv d r=>eW λx m e=>?_;obtain⟨⟨id,rfl,u⟩,rfl⟩:=yW e;have z:=(gT u).1;obtain⟨H,d2,C⟩:=t.nd x z;unfold QV;split
  .refine ⟨?_,d,gY _⟩;show List.length _<=_;cases I:x.bd.find? λp=>p.name==n.text with
   |none=>simp|some p=>grind
  split
  .refine ⟨?_,d,gY _⟩;exact ef (NK _ _) C
  split;·exact ⟨trivial,d,gY _⟩
  split;·exact ⟨trivial,d,gY _⟩
  split;·exact ⟨trivial,d,gY _⟩
  .exact Pn _ _ _ d (by simpa using t.pre x z)
 split
 .refine o k λv q hv d r=>?_;unfold Pl;split
  .refine eW λx m e=>?_;obtain⟨rfl,rfl⟩:=vm e;refine⟨?_,d,gY _⟩;have:x.length<=1048576:=hv;show cG _;unfold cG;omega
  split
  .refine eW λx m e=>?_;obtain⟨rfl,rfl⟩:=vm e;exact⟨trivial,d,gY _⟩
  split
  .refine eW λx m e=>?_;obtain⟨rfl,rfl⟩:=DU e;exact⟨UP hv,d,gY _⟩
  split
  .refine eW λx m e=>?_;obtain⟨⟨id,rfl,u⟩,rfl⟩:=yW e;exact⟨(t.nd x (gT u).1).1,d,gY _⟩
  split
  .refine eW λx m e=>?_;obtain⟨⟨id,rfl,u⟩,rfl⟩:=yW e;have:=t.ready.rj x (gT u).1;refine⟨?_,d,gY _⟩;show cG _;unfold cG;omega
  .split
   .split
    .rename_i s n e;obtain⟨_,a,b,_⟩:=X.Dk e;exact⟨⟨a,b⟩,d,gY _⟩
    .trivial
   .trivial
 split
 .refine o k λa q J d r=>o d λb m K w D=>?_;split
  .trivial
  .rename_i v e;exact⟨aaS e,w,gY _⟩
 split
 .refine o k λv q hv d r=>eW λb m e=>?_;obtain⟨rfl,rfl⟩:=yV e;split
  .exact ⟨trivial,d,gY _⟩
  .refine o d λv L hv w D=>eW λc N e=>?_;obtain⟨rfl,rfl⟩:=yV e;exact⟨trivial,w,gY _⟩
 split
 .refine o k λv q hv d r=>eW λb m e=>?_;obtain⟨rfl,rfl⟩:=yV e;exact⟨trivial,d,gY _⟩
 split
 .refine o k λv q hv d r=>eW λb m e=>?_;obtain⟨rfl,rfl⟩:=yV e
  grind
 .refine o k λv q hv d r=>eW λxs m e=>?_;obtain⟨rfl,rfl⟩:=vm e;exact DV (λx l k=>y _ _ _ k) _ _ _ _ d b9 (by have:xs.length<=1048576:=hv;grind)
def DW{G:Gd}(a:tx G):∀(d:Nat)(i:Int)(env:Z jT)(l:Int),0<=l->mQ l (La G d i env l)
 |0,_,_,_,_=>trivial|d+1,i,env,l,b=>by
  unfold La;split
  .trivial
  .split
   .rename_i n c;exact oJ M (UQ a (λi env l b=>DW a d i env l b) (bW c) env (l-1) M)
   .trivial
def xr:Except Int Va->Except cV dw
 |.error e=>.error ⟨e⟩|.ok v=>.ok v.v
def Lb:Except Int Va->dw×Int
 |.error e=>(v0,e)|.ok v=>(v.v,0)
section
variable(N:Nat)
theorem XL{p:Prop}{a:Decidable p}(h:p):dv (@decide p a)=O ():=by rw[lj (by grind)]
theorem aiE(u:k=20∨k=21∨k=22){b:Va}(g:a.Ok)(i:b.Ok):Yt N (k,a.v,b.v)=O (xr (h8 k a b)):=by
 rcases u with rfl|rfl|rfl
 .cases a<;>cases b;case vi.vi x y=>
   have d:cG x:=g;have e:cG y:=i;simp only[Yt,aG,Va.v,gW,eG,Yy N d e];have:qh 20 x y=x+y:=rfl
   grind [h8,cG,xr,Au,Va.v]
  case vt.vt s t=>
   have A:s.length<=1048576:=g;have B:t.length<=1048576:=i;have C:IntKind.i64.wrap ((s.length:Int)+(t.length:Int))=((s.length+t.length:Nat):Int):=by rw[b7 M M];omega
   have D:s.length+t.length<=maxLen:=by have:maxLen=9223372036854775807:=rfl;omega
   simp only[Yt,aG,Va.v,gW,eG]
   grind [h8,xr,KD,Va.v,dv]
  all_goals rfl
 .cases a<;>cases b;case vi.vi x y=>
   have d:cG x:=g;have e:cG y:=i;have v:=d;have w:=e;unfold cG at v w;have:qh 21 x y=x-y:=rfl;simp only[Yt,aG,Va.v,gW,eG,Au]
   grind [h8,b7,cG,xr,Va.v]
  all_goals rfl
 .cases a<;>cases b;case vi.vi x y=>
   have d:cG x:=g;have e:cG y:=i;have:qh 22 x y=x*y:=rfl;show Yt N (22,⟨1,x,[],F,0,[]⟩,⟨1,y,[],F,0,[]⟩)=O (xr (h8 22 (.vi x) (.vi y)));unfold Yt;dsimp only;simp only[aG,gW,eG,Au];simp only[h8,this];by_cases h0:x=0
   .subst h0;simp[xr,Va.v,cG];decide
   have j:=Tv d e h0;have b0:(x==0)=F:=by grind
   have c0:decide (x≠0)=W:=by grind
   have l:((22:Int)==20)=F:=rfl;have m:((22:Int)==21)=F:=rfl;have n:((1:Int)==1)=W:=rfl;have z:x≠0:=h0;simp only[XL z];by_cases o:IntKind.i64.wrap ((IntKind.i64.wrap (x*y)).tdiv x)=y
   .have f:(IntKind.i64.wrap ((IntKind.i64.wrap (x*y)).tdiv x)==y)=W:=by grind
    by_cases q:x=-1
    .have b2:(x==-1)=W:=by grind
     by_cases r:y=-9223372036854775808
     .have c:¬cG (x*y):=λh=>(j.2 h).2 ⟨q,r⟩;have p:(y==-9223372036854775808)=W:=by grind
      simp only[b0,f,b2,p,c0,l,m,n,c,aW,aX,aE,cm,cA,fQ,tA,xr,Va.v];rfl
     .have c:cG (x*y):=j.1 ⟨o,λh=>r h.2⟩;have p:(y==-9223372036854775808)=F:=by grind
      simp only[b0,f,b2,p,c0,l,m,n,c,aW,aX,aE,cm,cA,fQ,tA,xr,Va.v];rw[b7 c.1 c.2];rfl
    .have b2:(x==-1)=F:=by grind
     have c:cG (x*y):=j.1 ⟨o,λh=>q h.1⟩;simp only[b0,f,b2,c0,l,m,n,c,aW,aX,aE,cm,cA,fQ,tA,xr,Va.v];rw[b7 c.1 c.2];rfl
   .have f:(IntKind.i64.wrap ((IntKind.i64.wrap (x*y)).tdiv x)==y)=F:=by grind
    have c:¬cG (x*y):=λh=>o (j.2 h).1;simp only[b0,f,c0,l,m,n,c,aW,aX,aE,cm,cA,fQ,tA,xr,Va.v];rfl
  all_goals rfl
def UR:Op.bytesLess [] []=F:=b9
theorem aiF(d:k=23∨k=24∨k=25∨k=26)(a b:Va):yE N (k,a.v,b.v)=O (xr (h8 k a b)):=by
 rcases d with rfl|rfl|rfl|rfl
 .cases a<;>cases b;case vi.vi x y=>
   show yE N (23,⟨1,x,[],F,0,[]⟩,⟨1,y,[],F,0,[]⟩)=_;unfold yE
   grind [aG,gW,eG,sZ,h8,xr,Va.v]
  case vt.vt x y=>
   show yE N (23,⟨2,0,x,F,0,[]⟩,⟨2,0,y,F,0,[]⟩)=_;unfold yE
   grind [aG,gW,eG,sZ,h8,xr,Va.v]
  case vb.vb x y=>cases x<;>cases y<;>rfl
  case vn.vn x y=>show yE N (23,⟨4,0,[],F,x,[]⟩,⟨4,0,[],F,y,[]⟩)=_;unfold yE;dsimp only;cases h:(x==y)<;>simp[aG,gW,eG,sZ,h8,xr,Va.v,h]
  all_goals rfl
 .cases a<;>cases b;case vi.vi x y=>
   show yE N (24,⟨1,x,[],F,0,[]⟩,⟨1,y,[],F,0,[]⟩)=_;unfold yE
   grind [aG,gW,eG,sZ,h8,xr,Va.v]
  case vt.vt x y=>
   show yE N (24,⟨2,0,x,F,0,[]⟩,⟨2,0,y,F,0,[]⟩)=_;unfold yE
   grind [aG,gW,eG,sZ,h8,xr,Va.v]
  case vb.vb x y=>cases x<;>cases y<;>rfl
  case vn.vn x y=>show yE N (24,⟨4,0,[],F,x,[]⟩,⟨4,0,[],F,y,[]⟩)=_;unfold yE;dsimp only;cases h:(x==y)<;>simp[aG,gW,eG,sZ,h8,xr,Va.v,h]
  all_goals rfl
 .cases a<;>cases b;case vi.vi x y=>show yE N (25,⟨1,x,[],F,0,[]⟩,⟨1,y,[],F,0,[]⟩)=_;unfold yE;dsimp only;by_cases h:x<y<;>cases c:(x==y)<;>simp[aG,gW,eG,sZ,h8,xr,Va.v,h,c,UR]
  case vt.vt x y=>show yE N (25,⟨2,0,x,F,0,[]⟩,⟨2,0,y,F,0,[]⟩)=_;unfold yE;dsimp only;cases h:(x==y)<;>cases c:Op.bytesLess x y<;>simp[aG,gW,eG,sZ,h8,xr,Va.v,h,c]
  case vb.vb x y=>cases x<;>cases y<;>rfl
  case vn.vn x y=>show yE N (25,⟨4,0,[],F,x,[]⟩,⟨4,0,[],F,y,[]⟩)=_;unfold yE;dsimp only;cases h:(x==y)<;>simp[aG,gW,eG,sZ,h8,xr,Va.v,h]
  all_goals rfl
 .cases a<;>cases b;case vi.vi x y=>show yE N (26,⟨1,x,[],F,0,[]⟩,⟨1,y,[],F,0,[]⟩)=_;unfold yE;dsimp only;by_cases h:x<y<;>cases c:(x==y)<;>simp[aG,gW,eG,sZ,h8,xr,Va.v,h,c,UR]
  case vt.vt x y=>show yE N (26,⟨2,0,x,F,0,[]⟩,⟨2,0,y,F,0,[]⟩)=_;unfold yE;dsimp only;cases h:(x==y)<;>cases c:Op.bytesLess x y<;>simp[aG,gW,eG,sZ,h8,xr,Va.v,h,c]
  case vb.vb x y=>cases x<;>cases y<;>rfl
  case vn.vn x y=>show yE N (26,⟨4,0,[],F,x,[]⟩,⟨4,0,[],F,y,[]⟩)=_;unfold yE;dsimp only;cases h:(x==y)<;>simp[aG,gW,eG,sZ,h8,xr,Va.v,h]
  all_goals rfl
end
section
variable{N:Nat}(hN:1073741824<=N)
include hN
theorem XM:GD N ([],[])=O W:=by
 obtain⟨n,rfl⟩:∃n,N=n+1:=⟨N-1,M⟩
 rfl
theorem aiG(d:k=20∨k=21∨k=22∨k=23∨k=24∨k=25∨k=26){b:Va}(e:a.Ok)(f:b.Ok):tX N (k,a.v,b.v)=O (Lb (h8 k a b)):=by
 have m:=XM hN;have g:∀{k x y:Int},(k=20∨k=21∨k=22)->cG x->cG y->tX N (k,(Va.vi x).v,(Va.vi y).v)=O (Lb (h8 k (.vi x) (.vi y))):=λ{k x y} d i j=>by
  obtain⟨p,l,c⟩:=Yz N d i j;show tX N (k,⟨1,x,[],F,0,[]⟩,⟨1,y,[],F,0,[]⟩)=_;by_cases h:cG (qh k x y);all_goals
   rcases d with rfl|rfl|rfl
  all_goals
   unfold tX;dsimp only;simp only[aG,l];simp[h8,h,c,Lb,KI,Va.v,v0]
 rcases d with rfl|rfl|rfl|rfl|rfl|rfl|rfl
 .cases a<;>cases b;case vi.vi x y=>exact g aH e f
  case vt.vt s t=>
   have n:s.length<=1048576:=e;have o:t.length<=1048576:=f;have q:IntKind.i64.wrap ((s.length:Int)+(t.length:Int))=((s.length+t.length:Nat):Int):=by rw[b7 M M];omega
   have r:s.length+t.length<=maxLen:=by have:maxLen=9223372036854775807:=rfl;omega
   show tX N (20,⟨2,0,s,F,0,[]⟩,⟨2,0,t,F,0,[]⟩)=_;unfold tX
   grind [aG,h8,Lb,v0,KJ,Va.v,dv]
  all_goals rfl
 .cases a<;>cases b;case vi.vi x y=>exact g aH e f
  all_goals rfl
 .cases a<;>cases b;case vi.vi x y=>exact g aH e f
  all_goals rfl
 .cases a<;>cases b;case vi.vi x y=>
   show tX N (23,⟨1,x,[],F,0,[]⟩,⟨1,y,[],F,0,[]⟩)=_;unfold tX
   grind [aG,O7,kc,h8,Lb,Va.v]
  case vt.vt x y=>
   show tX N (23,⟨2,0,x,F,0,[]⟩,⟨2,0,y,F,0,[]⟩)=_;unfold tX
   grind [aG,O7,kc,h8,Lb,Va.v]
  case vb.vb x y=>
   show tX N (23,⟨3,0,[],x,0,[]⟩,⟨3,0,[],y,0,[]⟩)=_;unfold tX
   grind [aG,O7,kc,h8,Lb,Va.v]
  case vn.vn x y=>
   show tX N (23,⟨4,0,[],F,x,[]⟩,⟨4,0,[],F,y,[]⟩)=_;unfold tX
   grind [aG,O7,kc,h8,Lb,Va.v]
  all_goals rfl
 .cases a<;>cases b;case vi.vi x y=>
   show tX N (24,⟨1,x,[],F,0,[]⟩,⟨1,y,[],F,0,[]⟩)=_;unfold tX
   grind [aG,O7,kc,h8,Lb,Va.v]
  case vt.vt x y=>
   show tX N (24,⟨2,0,x,F,0,[]⟩,⟨2,0,y,F,0,[]⟩)=_;unfold tX
   grind [aG,O7,kc,h8,Lb,Va.v]
  case vb.vb x y=>
   show tX N (24,⟨3,0,[],x,0,[]⟩,⟨3,0,[],y,0,[]⟩)=_;unfold tX
   grind [aG,O7,kc,h8,Lb,Va.v]
  case vn.vn x y=>
   show tX N (24,⟨4,0,[],F,x,[]⟩,⟨4,0,[],F,y,[]⟩)=_;unfold tX
   grind [aG,O7,kc,h8,Lb,Va.v]
  all_goals rfl
 .cases a<;>cases b;case vi.vi x y=>
   show tX N (25,⟨1,x,[],F,0,[]⟩,⟨1,y,[],F,0,[]⟩)=_;unfold tX
   grind [aG,kc,h8,Lb,Va.v]
  case vt.vt x y=>show tX N (25,⟨2,0,x,F,0,[]⟩,⟨2,0,y,F,0,[]⟩)=_;unfold tX;dsimp only;cases h:(x==y)<;>cases c:Op.bytesLess x y<;>simp[aG,kc,h8,Lb,Va.v,h,c]
  all_goals rfl
 .cases a<;>cases b;case vi.vi x y=>
   show tX N (26,⟨1,x,[],F,0,[]⟩,⟨1,y,[],F,0,[]⟩)=_;unfold tX
   grind [aG,kc,h8,Lb,Va.v]
  case vt.vt x y=>show tX N (26,⟨2,0,x,F,0,[]⟩,⟨2,0,y,F,0,[]⟩)=_;unfold tX;dsimp only;cases h:(x==y)<;>cases c:Op.bytesLess x y<;>simp[aG,kc,h8,Lb,Va.v,h,c]
  all_goals rfl
end
theorem Po{a b:Int}:dp a b=W↔a=b:=by grind
theorem Lc(k:Int)(v:Nd)(q:Int):∀l:Z (Int×Nd),bp dp (fV dp l k v) q=if q=k then O v else bp dp l q
 |[]=>by
  by_cases h:q=k
  .rw[aq h];simp[fV,bp,Po.2 h]
  .rw[ao h];have:dp q k=F:=by grind
   simp[fV,bp,this]
 |(a,w)::l=>by
  by_cases c:k=a
  .have b:dp k a=W:=Po.2 c;simp only[fV,b,aW,bp]
   grind
  .have b:dp k a=F:=by grind
   simp only[fV,b,aX,bp];cases d:dp q a with
   |true=>grind|false=>simp only[aX];exact Lc k v q l
def IB(l:Z Nd):Z (Int×Nd):=l.foldl (λa n=>fV dp a n.iD n) []
theorem Gj(q:Int):∀(l:Z Nd)(a:Z (Int×Nd)),bp dp (l.foldl (λa n=>fV dp a n.iD n) a) q=(l.reverse.find? (·.iD==q)).or (bp dp a q)
 |[],a=>rfl|n::l,a=>by
  rw[vA,Gj q l,Lc,List.reverse_cons,List.find?_append,Option.or_assoc]
  grind
def QW(l:Z Nd)(q:Int):bp dp (IB l) q=l.reverse.find? (·.iD==q):=by unfold IB;rw[Gj];exact Option.or_none
theorem IC(b:iw m)(q:Int):bp dp (IB m.aj) q=cE m q:=by
 rw[QW];cases a:cE m q with
 |some x=>
  obtain⟨c,d⟩:=gT a;cases e:m.aj.reverse.find? (·.iD==q)with
  |some y=>grind [Gx,jH]|none=>grind
 |none=>grind [cE,List.find?_eq_none]
structure yX(N:Nat)(t:Option Nat)(β:bP->bP->Bool)where
 ok:Hp->Prop
 eP:∀h h',ok h->h'.fP=h.fP->h'.jn=h.jn->h'.jU=h.jU->h'.eY=h.eY->h'.vx=h.vx->ok h'
 ask:∀h a b,ok h->T (M6 N (t,a,b) h) λr=>r.1=β a b/\ok r.2/\r.2={h with fP:=r.2.fP,jn:=r.2.jn}
section
variable{N:Nat}{t:V Nat}{G:Gd}(B:yX N t G.β)(r j:Nat)(bj:Int)
structure PR(h:Hp)(l:Int):Prop where
 ok:B.ok h
 run:h.sY[r]?=O ⟨t,G.m,⟨G.E⟩,O j,G.self,bj,bj-l⟩
 vy:h.vy[j]?=O (IB G.m.aj)
def RQ{α γ:Type}(ρ:α->γ)(o:Rs α)(y:(Except cV γ)×Hp):Prop:=match o with
 |.ka e=>y.1=.error ⟨e⟩|.ok a l=>y.1=.ok (ρ a)/\PR B r j bj y.2 l
def vo(f:bP->Hp->V ((Int×aa)×Hp))(env:Z jT):Prop:=∀s h,f s h=O (match uc env s with
 |some i=>(i,W)|none=>(0,F),h)
end
section
variable{N:Nat}{t:V Nat}{G:Gd}{B:yX N t G.β}{r j:Nat}{bj:Int}
def ID{o:Rs α}{y:(Except cV γ)×Hp}{g:α->Int->Rs δ}{K:γ->V ((Except cV ε)×Hp)}(b:RQ B r j bj ρ o y)
  (h:∀a l,o=.ok a l->PR B r j bj y.2 l->T (K (ρ a)) (RQ B r j bj σ (g a l))):T (eG y.1 (λe=>O (.error e,y.2)) K) (RQ B r j bj σ (o.bind g)):=by
 cases o with
 |ka e=>have b:y.1=.error ⟨e⟩:=b;rw[b];exact ad rfl|ok a l=>
  obtain⟨c,d⟩:=(b:y.1=.ok (ρ a)/\PR B r j bj y.2 l)
  rw[c];exact h a l rfl d
def PR.same {h:Hp} (a:PR B r j bj h l) (b:h'.fP=h.fP) (c:h'.jn=h.jn) (d:h'.jU=h.jU) (e:h'.eY=h.eY) (f:h'.vx=h.vx) (g:h'.sY=h.sY) (i:h'.vy=h.vy):PR B r j bj h' l:=⟨B.eP h h' a.ok b c d e f,by rw[g];exact a.run,by rw[i];exact a.vy⟩
theorem UT{h:Hp}(a:PR B r j bj h l)(h0:0<=l)(e:l<=bj)(f:bj<=1048576):T (Ys N (O r) h) (RQ B r j bj (λu:ab=>u) (if l=0 then .ka 100 else .ok () (l-1))):=by
 unfold Ys;simp only[aE,a.run];by_cases c:l=0
 .have b:(bj-l==bj)=W:=by grind
  rw[b,aq c,aW];exact ad rfl
 .have b:(bj-l==bj)=F:=by grind
  rw[b,ao c,aX];refine iv λh' d=>ad ⟨rfl,?_⟩;subst d;have g:r<h.sY.length:=(cr.1 a.run).1;refine⟨B.eP h _ a.ok rfl rfl rfl rfl rfl,?_,a.vy⟩
  grind [tG,b7]
def YV{h:Hp}(c:PR B r j bj h l)(a b:bP):T (M6 N (t,a,b) h) λy=>y.1=G.β a b/\PR B r j bj y.2 l:=by
 refine ek (B.ask h a b c.ok) λy ⟨e,f,d⟩=>⟨e,f,?_,?_⟩
 .rw[d];exact c.run
 .rw[d];exact c.vy
def XN:vo (λ_ h=>O ((0,F),h)) []:=λs h=>rfl
theorem DX(a:vo f env)(n:cY)(x:Int):vo (λs h=>Iq N (s,n,x,f) h) (env++[⟨n.text,x⟩]):=λs h=>by
 unfold Iq;dsimp only;have e:uc (env++[⟨n.text,x⟩]) s=if n.text==s then O x else uc env s:=by grind [uc,LA,List.reverse_singleton,List.singleton_append]
 rw[e];by_cases d:s=n.text
 grind
 .have b:(s==n.text)=F:=by grind
  have c:(n.text==s)=F:=by grind
  rw[b,c,a s h];rfl
theorem aiH{h:Hp}(a:PR B r j bj h l)(k:vo f env)(n:cY)(q:n.kind<=7):T (F47 N (O r,n,f) h) (RQ B r j bj Va.v (Gh G n env l)):=by
 unfold F47 Gh;apply aw<;>intro e
 .rw[aq (by grind)];exact ad ⟨rfl,a⟩
 have m:¬n.kind=1:=by grind
 rw[ao m];apply aw<;>intro e
 .rw[aq (by grind)];exact ad ⟨rfl,a⟩
 have o:¬n.kind=2:=by grind
 rw[ao o];refine aS (λs=>s.1=(decide (n.kind=3)||decide (n.kind=4))) (λJ d=>aw (λe=>d _ ?_) λe=>d _ ?_) ?_
 grind
 grind
 rintro⟨p,u⟩ g;dsimp only at g⊢;subst g;by_cases b:n.kind=3
 .rw[aq b];simp only[b,od,Bool.true_or,aW];exact ad ⟨rfl,a⟩
 rw[ao b];by_cases c:n.kind=4
 .rw[aq c];simp only[c,od,Bool.or_true,aW];exact ad ⟨rfl,a⟩
 rw[ao c];simp only[b,c,lM,IS,aX];apply aw<;>intro e
 .rw[aq (by grind)];simp only[aE,a.run];exact ad ⟨rfl,a⟩
 rw[ao (by grind)];apply aw<;>intro e
 .rw[aq (by grind)];exact ad ⟨rfl,a⟩
 rw[ao (by grind),k n.text h];cases uc env n.text with
 |none=>exact ad rfl|some i=>exact ad ⟨rfl,a⟩
end
abbrev QX:Type:=ajt
section
variable{N:Nat}(hN:1073741824<=N){t:V Nat}{G:Gd}{B:yX N t G.β}{r j:Nat}{bj:Int}
structure EK(B:yX N t G.β)(r j:Nat)(bj:Int)(rec:QX)(dB:Int->List jT->Int->Rs Va)(S:Int->Prop):Prop where
 run:∀k f env h l,S k->vo f env->0<=l->l<=bj->PR B r j bj h l->T (rec (O r,k,f) h) (RQ B r j bj Va.v (dB k env l))
 ok:∀k env l,0<=l->mQ l (dB k env l)
structure oK(S:Int->Prop)(n:cY)(c:Nat):Prop where
 len:n.aD.length=c
 all:∀k∈n.aD,S k
variable{rec:QX}{dB:Int->Z jT->Int->Rs Va}{S:Int->Prop}
def jl{b:aa}{e:Int}{h:Hp}{K:ab->V ((Except cV γ)×Hp)}{o:Rs α}(h0:b=F->o=.ka e)(a:b=W->T (K ()) (RQ B r j bj ρ o)):
  T ((kb N (b,e)).bind λy=>eG y (λe=>O (.error e,h)) K) (RQ B r j bj ρ o):=by
 rw[gW,aE];cases b with
 |false=>rw[h0 rfl];exact ad rfl|true=>exact a rfl
theorem hj{n:cY}{c:Nat}(a:oK S n c)(q:Nat)(d:q<c):∃k,S k/\ax n.aD (q:Int)=O k/\∀(dB:Int->Z jT->Int->Rs Va) env l,je dB n q env l=dB k env l:=by
 have b:q<n.aD.length:=by rw[a.len];grind
 exact⟨n.aD[q],a.all _ (fR b),dq b,λdB env l=>by grind [je,cX]⟩
def DY(a:EK B r j bj rec dB S){h:Hp}(b:S k)(c:vo f env)(h0:0<=l)(d:l<=bj)(i:PR B r j bj h l){ρ:δ->ε}{g:Va->Int->Rs δ}{K:((Except cV dw)×Hp)->dw->V ((Except cV ε)×Hp)}
  (m:∀v l' y,v.Ok->0<=l'->l'<=l->PR B r j bj y.2 l'->T (K y v.v) (RQ B r j bj ρ (g v l'))):
  T ((rec (O r,k,f) h).bind λy=>eG y.1 (λe=>O (.error e,y.2)) (K y)) (RQ B r j bj ρ ((dB k env l).bind g)):=by
 refine aB (a.run k f env h l b c h0 d i) λy n=>ID n λv l' e o=>?_;have:=a.ok k env l h0;rw[e]at this;exact m v l' y this.1 this.2.1 this.2.2 o
theorem UW(b:iw G.m)(c:EK B r j bj rec dB S){h:Hp}(d:S k)(g:vo f env)(h0:0<=l)(m:l<=bj)(n:PR B r j bj h l):
  T (M5 N rec (O r,k,f) h) (RQ B r j bj id ((dB k env l).bind (Lv G))):=by
 unfold M5;dsimp only;refine DY c d g h0 m n λv l' y hv o p a=>?_;cases v with
 |vn i=>
  refine jl (λq=>by cases q) λ_=>?_;simp only[aE,a.run,dX,a.vy,IC b];show T _ (RQ B r j bj id (Lv G (.vn i) l'));unfold Lv;cases e:cE G.m i with
  |none=>exact jl (λ_=>by grind) λq=>by simp[Va.v,e]at q|some x=>refine jl (λq=>by simp[Va.v,e]at q) λ_=>?_;simp only[Va.v,e];exact ad ⟨rfl,a⟩
 |_=>exact jl (λ_=>rfl) λq=>by cases q
def Ld(a:EK B r j bj rec dB S){h:Hp}(b:S k)(c:vo f env)(h0:0<=l)(d:l<=bj)(e:PR B r j bj h l):
  T (EH N rec (O r,k,f) h) (RQ B r j bj id ((dB k env l).bind UO)):=by
 unfold EH;dsimp only;refine DY a b c h0 d e λv l' y hv m n g=>?_;cases v with
 |vl i=>exact jl (λq=>by cases q) λ_=>ad ⟨rfl,g⟩
 |_=>exact jl (λ_=>rfl) λq=>by cases q
def YW(a:EK B r j bj rec dB S){h:Hp}(b:S k)(c:vo f env)(h0:0<=l)(d:l<=bj)(e:PR B r j bj h l):
  T (KE N rec (O r,k,f) h) (RQ B r j bj id ((dB k env l).bind YU)):=by
 unfold KE;dsimp only;refine DY a b c h0 d e λv l' y hv m n g=>?_;cases v with
 |vi i=>exact jl (λq=>by cases q) λ_=>ad ⟨rfl,g⟩
 |_=>exact jl (λ_=>rfl) λq=>by cases q
def QY(a:EK B r j bj rec dB S){h:Hp}(b:S k)(c:vo f env)(h0:0<=l)(d:l<=bj)(e:PR B r j bj h l):
  T (M8 N rec (O r,k,f) h) (RQ B r j bj id ((dB k env l).bind KZ)):=by
 unfold M8;dsimp only;refine DY a b c h0 d e λv l' y hv m n g=>?_;cases v with
 |vb i=>exact jl (λq=>by cases q) λ_=>ad ⟨rfl,g⟩
 |_=>exact jl (λ_=>rfl) λq=>by cases q
end
def Le(o:Rs α)(f:α->Int->Rs β)(g:β->Int->Rs γ):(o.bind f).bind g=o.bind λa l=>(f a l).bind g:=by cases o<;>rfl
theorem XO(s:Z bc):nL s=match X.nw s with
 |some v=>(v,0)|none=>(0,2):=by
 cases h:X.nw s with
 |some v=>
  obtain⟨a,b,c,f⟩:=X.Dk h;have d:=X.MS b c;rw[a]at d;unfold nL
  grind
 |none=>
  unfold nL;split
  .rfl
  .split
   .rename_i v hv;split
    .rename_i e;have g:=Lib.parseIntB_bounds hv
     grind [X.nw,Lib.itoa,X.MR]
    .rfl
   .rfl
section
variable{N:Nat}(hN:1073741824<=N){t:V Nat}{G:Gd}{B:yX N t G.β}{r j:Nat}{bj:Int}
variable{rec:QX}{dB:Int->Z jT->Int->Rs Va}{S:Int->Prop}
theorem nz{c:Type}{o:Rs Va}(d:mQ l o){X:V ((Except cV c)×Hp)}{ρ:γ->c}{b:Va->Int->Rs γ}(f:T X (RQ B r j bj ρ (o.bind b)))(has:∀v l a l',b v l=.ok a l'->l'=l){g:γ->Int->Rs δ}{K:((Except cV c)×Hp)->c->V ((Except cV ε)×Hp)}
  (k:∀a l' y v,v.Ok->b v l'=.ok a l'->0<=l'->l'<=l->PR B r j bj y.2 l'->T (K y (ρ a)) (RQ B r j bj σ (g a l'))):
  T (X.bind λy=>eG y.1 (λe=>O (.error e,y.2)) (K y)) (RQ B r j bj σ (o.bind λv l=>(b v l).bind g)):=by
 rw[<-Le];refine aB f λy h=>ID h λa l' e m=>?_;cases o with
 |ka e=>cases e
 |ok v i=>
  have e:b v i=.ok a l':=e;have:=has _ _ _ _ e;subst this;obtain⟨q1,n,p⟩:=d
  grind
def YX(v:Va)(l a l':Int)(h:YU v l=.ok a l'):l'=l:=(DU h).2
def ud(v:Va)(l:Int)(a:aa)(l':Int)(h:KZ v l=.ok a l'):l'=l:=(yV h).2
def Lf(v:Va)(l:Int)(a:Z Int)(l':Int)(h:UO v l=.ok a l'):l'=l:=(vm h).2
def Gk(v:Va)(l:Int)(a:Nd)(l':Int)(h:Lv G v l=.ok a l'):l'=l:=(yW h).2
include hN
theorem aiI(u:iw G.m)(c:EK B r j bj rec dB S){n:cY}(z:oK S n 1)(E:14<=n.kind)(H:n.kind<=19){h:Hp}(d:vo f env)(h0:0<=l)(g:l<=bj)(i:PR B r j bj h l):
  T (F49 N rec (O r,n,f) h) (RQ B r j bj Va.v ((je dB n 0 env l).bind λv l=>Pl G n.kind v l)):=by
 obtain⟨k,m,t,A⟩:=hj z 0 M;have t:ax n.aD 0=O k:=t;rw[A];unfold F49;dsimp only;rw[t];simp only[aE];have o:=c.ok k env l h0;apply bt<;>intro e
 .rw[e];show T _ (RQ B r j bj Va.v ((dB k env l).bind λv l=>(UO v l).bind λxs l=>Rs.ok (Va.vi xs.length) l));refine nz o (Ld c m d h0 g i) Lf λa l' y v _ _ _ _ b=>ad ⟨rfl,b⟩
 apply bt<;>intro e
 .rw[e];show T _ (RQ B r j bj Va.v ((dB k env l).bind λv l=>(UO v l).bind λxs l=>Rs.ok (Va.vn (xs.head?.getD 0)) l));refine nz o (Ld c m d h0 g i) Lf λa l' y v _ _ _ _ b=>?_;cases a with
  |nil=>exact ad ⟨rfl,b⟩|cons x a=>exact a6 (λ_=>ad ⟨rfl,b⟩) λq=>by grind
 apply bt<;>intro e
 .rw[e];show T _ (RQ B r j bj Va.v ((dB k env l).bind λv l=>(YU v l).bind λn l=>Rs.ok (Va.vt (Lib.itoa n)) l));refine nz o (YW c m d h0 g i) YX λa l' y v hv e _ _ b=>?_;obtain⟨rfl,_⟩:=DU e;have hv:cG a:=hv;unfold aal ZW;dsimp only;rw[lj (by simp[hv.1,hv.2])];exact ad ⟨rfl,b⟩
 apply bt<;>intro e
 .rw[e];show T _ (RQ B r j bj Va.v ((dB k env l).bind λv l=>(Lv G v l).bind λx l=>Rs.ok (Va.vt x.au) l));refine nz o (UW u c m d h0 g i) Gk λa l' y v _ _ _ _ b=>ad ⟨rfl,b⟩
 apply bt<;>intro e
 .rw[e];show T _ (RQ B r j bj Va.v ((dB k env l).bind λv l=>(Lv G v l).bind λx l=>Rs.ok (Va.vi x.iD) l));refine nz o (UW u c m d h0 g i) Gk λa l' y v _ _ _ _ b=>ad ⟨rfl,b⟩
 have C:n.kind=19:=M;rw[C];refine DY c m d h0 g i λv l' y hv I J b=>?_;cases v with
 |vt s=>
  have K:s.length<=1048576:=hv;refine jl (λq=>by cases q) λ_=>?_;unfold ZX;rw[lj (show decide ((Va.vt s).v.text.length<=281474976710656)=W by show decide (s.length<=281474976710656)=W;grind)];simp only[aE];generalize D:nL (Va.vt s).v.text=q;have p:nL s=q:=D;rw[XO]at p;show T _ (RQ B r j bj Va.v (match X.nw s with
   |some n=>.ok (.vi n) l'|none=>.ka 103))
  cases w:X.nw s with
  |none=>rw[w]at p;subst p;exact jl (λ_=>rfl) λq=>by grind|some n=>rw[w]at p;subst p;exact jl (λq=>by grind) λ_=>ad ⟨rfl,b⟩
 |_=>exact jl (λ_=>rfl) λq=>by cases q
end
end Go.Proofs.Mo
