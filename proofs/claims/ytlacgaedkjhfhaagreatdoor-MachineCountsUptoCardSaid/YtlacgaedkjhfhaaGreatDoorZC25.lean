import Derived.Test.YtlacgaedkjhfhaaGreatDoorZC24
set_option linter.all false
set_option maxRecDepth 20000
open Option renaming some->O,none->Y
open Bool renaming true->W,false->F
open Go.Proofs.Tryz
namespace Go.Proofs.Mo
open Go Go.Ev Go.X
variable{ls:Z cW}{k n B':Nat}{β α:Type}{l:Z dt}{c:dt}{s:cI}{xs:Z cI}{o:V Nat}{P:cI×dt->Prop}{e:gD}{sl:Nat->V (Nat×Nat)}{r:dB}
section
variable{N:Nat}(hN:1073741824<=N)
include hN
theorem Du(a b c d e:Int):T (Ps N (a,b,c,d,e)) λr=>r.gd=e:=⟨_,rfl,rfl⟩
theorem WE(a:Int)(s:cI)(e:s.length<=1048576):T (Sn N (a,s)) λ_=>True:=by unfold Sn;refine ahq (λJ b=>?_) ?_;refine ahp (↑(List.length s)) λrec _ _ f g c=>?_;dsimp only;apply a7<;>intro d;refine aH an an λx h i=>?_;apply aO<;>intro d;exact aho;exact c _ bt bt;exact b _;rintro⟨_,_⟩;exact aho
theorem uh(s:cI)(h:s.length<=1048576):T (GN N s) λ_=>True:=by unfold GN;apply a7<;>intro a;exact aho;apply a7<;>intro a;exact aho;refine aH an an λx b c=>ap (WE an _ _ an) λy d e=>?_;apply bZ<;>intro a;exact aho;refine ahq (λJ f=>?_) ?_;refine ahp (↑(List.length s)) λrec _ _ i j g=>?_;dsimp only;apply a7<;>intro a;refine aH an an λx b c=>ap (WE an _ _ an) λy d e=>?_;apply bZ<;>intro a;exact aho;exact g _ bt bt;exact f _;rintro⟨_,_⟩;exact aho
theorem Jf(a b c d:Int):T (Sq N (a,b,c,d)) λ_=>True:=by unfold Sq;apply aO<;>intro e;exact aho;exact aho
theorem age(l:cW)(i:Int)(f:nF l)(h0:0<=i)(g:i<l.pZ.length):T (F85 N (l,i)) λ_=>True:=by obtain⟨g,k,b,m,n,o,p,q,r,s,t,u,v,w,z,A⟩:=id f;unfold F85;apply ht<;>intro c;exact aho;refine aH an an λx a d=>have e:=b x a;ap (uh an _ an) λy B C=>?_;apply bZ<;>intro c;exact aho;refine aH an an λx a d=>?_;have e:=b x a;apply aO<;>intro c;exact aho;refine ahq (λJ h=>?_) ?_;refine ahp i λrec _ _ D E j=>?_;dsimp only;apply a7<;>intro c;refine aH an M λx a d=>have e:=b x a;aH an an λx a d=>?_;have e:=b x a;apply aO<;>intro c;exact aho;exact j _ bt bt;exact h _;rintro⟨_,_⟩;exact aho
theorem WG(c:dt)(i:Int)(g:qD c)(h0:0<=i)(k:i<c.bl.length):T (Sr N (c,i)) λ_=>True:=by obtain⟨l,m,n,b,o,p,q,r,s,t⟩:=id g;unfold Sr;apply ht<;>intro d;exact aho;refine aH an an λx a e=>have f:=b x a;ap (uh an _ an) λy u v=>?_;apply bZ<;>intro d;exact aho;refine ahq (λJ h=>?_) ?_;refine ahp i λrec _ _ w z j=>?_;dsimp only;apply a7<;>intro d;refine aH an M λx a e=>have f:=b x a;aH an an λx a e=>?_;have f:=b x a;apply aO<;>intro d;exact aho;exact j _ bt bt;exact h _;rintro⟨_,_⟩;refine aH an an λx a e=>?_;have f:=b x a;apply a7<;>intro d;exact aho;refine aH an an λx a e=>?_;have f:=b x a;apply a7<;>intro d;exact aho;exact aho
theorem WH(c:dt)(i:Int)(g:qD c)(h0:0<=i)(n:i<c.bj.length):T (Ss N (c,i)) λ_=>True:=by obtain⟨o,p,q,r,s,e,f,t,u,v⟩:=id g;unfold Ss;refine aH an an λx b h=>?_;have d:=e x b;have d:=f x b;apply ht<;>intro a;exact aho;refine ap (uh an _ an) λy j k=>?_;apply bZ<;>intro a;exact aho;refine ap (uh an _ an) λy j k=>?_;apply bZ<;>intro a;exact aho;refine ahq (λJ l=>?_) ?_;refine ahp i λrec _ _ w z m=>?_;dsimp only;apply a7<;>intro a;refine aH an M λx b h=>?_;have d:=e x b;have d:=f x b;apply aO<;>intro a;exact aho;exact m _ bt bt;exact l _;rintro⟨_,_⟩;apply ba<;>intro a;apply ba<;>intro a;exact aho;apply ba<;>intro a;apply ba<;>intro a;exact aho;exact aho;exact aho;apply ba<;>intro a;apply ba<;>intro a;exact aho;exact aho;exact aho
theorem WI(c:dt)(i:Int)(g:qD c)(h0:0<=i)(n:i<c.ab.length):T (Su N (c,i)) λ_=>True:=by obtain⟨o,p,q,r,s,t,u,v,e,f⟩:=id g;unfold Su;refine aH an an λx a h=>?_;have d:=e x a;have d:=f x a;apply ht<;>intro b;exact aho;refine ap (uh an _ an) λy j k=>?_;apply bZ<;>intro b;exact aho;refine ap (uh an _ an) λy j k=>?_;apply bZ<;>intro b;exact aho;refine ahq (λJ l=>?_) ?_;refine ahp i λrec _ _ w z m=>?_;dsimp only;apply a7<;>intro b;refine aH an M λx a h=>?_;have d:=e x a;have d:=f x a;apply aO<;>intro b;exact aho;exact m _ bt bt;exact l _;rintro⟨_,_⟩;exact aho
theorem agf(l:cW)(i:Int)(n:nF l)(h0:0<=i)(p:i<l.br.length):T (F86 N (l,i)) λ_=>True:=by have f:=n.aw;have q:=λc b=>(f c b).name;have r:=λc b=>(f c b).de;have s:=λc b=>(f c b).bl;have t:=λc b=>(f c b).bj;have u:=λc b=>(f c b).ab;have w:=n.br;unfold F86;refine aH h0 p λz v A=>?_;have b:=f z v;have s:=b.bl;have t:=b.bj;have u:=b.ab;apply ht<;>intro a;exact aho;refine ap (uh an _ ?_) λy g h=>?_;solve_by_elim (maxDepth:=3);apply bZ<;>intro a;exact aho;refine ahq (λJ d=>?_) ?_;refine ahp i λrec _ _ j k e=>?_;dsimp only;apply a7<;>intro a;refine aH an M λx m B=>?_;have o:=f x m;have o:=q x m;have o:=r x m;apply aO<;>intro a;exact aho;exact e _ bt bt;exact d _;rintro⟨_,_⟩;apply ba<;>intro a;refine ap (uh an _ ?_) λy g h=>?_;solve_by_elim (maxDepth:=3);apply bZ<;>intro a;exact aho;apply aO<;>intro a;exact aho;refine ahq (λJ d=>?_) ?_;refine ahp (↑z.bl.length) λrec _ _ j k e=>?_;dsimp only;apply a7<;>intro a;refine ap (WG an _ _ an an an) λy g h=>?_;apply ba<;>intro a;exact aho;exact e _ bt bt;exact d _;rintro⟨_,_⟩;refine ahq (λJ d=>?_) ?_;refine ahp (↑z.bj.length) λrec _ _ j k e=>?_;dsimp only;apply a7<;>intro a;refine ap (WH an _ _ an an an) λy g h=>?_;apply ba<;>intro a;exact aho;exact e _ bt bt;exact d _;rintro⟨_,_⟩;refine ahq (λJ d=>?_) ?_;refine ahp (↑z.ab.length) λrec _ _ j k e=>?_;dsimp only;apply a7<;>intro a;refine ap (WI an _ _ an an an) λy g h=>?_;apply ba<;>intro a;exact aho;exact e _ bt bt;exact d _;rintro⟨_,_⟩;exact aho;apply aO<;>intro a;exact aho;refine ahq (λJ d=>?_) ?_;refine ahp (↑z.bl.length) λrec _ _ j k e=>?_;dsimp only;apply a7<;>intro a;refine ap (WG an _ _ an an an) λy g h=>?_;apply ba<;>intro a;exact aho;exact e _ bt bt;exact d _;rintro⟨_,_⟩;refine ahq (λJ d=>?_) ?_;refine ahp (↑z.bj.length) λrec _ _ j k e=>?_;dsimp only;apply a7<;>intro a;refine ap (WH an _ _ an an an) λy g h=>?_;apply ba<;>intro a;exact aho;exact e _ bt bt;exact d _;rintro⟨_,_⟩;refine ahq (λJ d=>?_) ?_;refine ahp (↑z.ab.length) λrec _ _ j k e=>?_;dsimp only;apply a7<;>intro a;refine ap (WI an _ _ an an an) λy g h=>?_;apply ba<;>intro a;exact aho;exact e _ bt bt;exact d _;rintro⟨_,_⟩;exact aho
theorem agh(l:cW)(i:Int)(g:nF l)(h0:0<=i)(h:i<l.dx.length):T (F87 N (l,i)) λ_=>True:=by obtain⟨h,o,p,q,r,s,e,f,t,u,v,w,z,A,B,C⟩:=id g;unfold F87;refine aH an an λx b j=>?_;have c:=e x b;have c:=f x b;apply ht<;>intro a;exact aho;refine ap (uh an _ an) λy k m=>?_;apply bZ<;>intro a;exact aho;refine ap (uh an _ an) λy k m=>?_;apply bZ<;>intro a;exact aho;refine ahq (λJ n=>?_) ?_;refine ahp i λrec _ _ D E d=>?_;dsimp only;apply a7<;>intro a;refine aH an M λx b j=>?_;have c:=e x b;have c:=f x b;apply aO<;>intro a;apply aO<;>intro a;apply aO<;>intro a;exact aho;exact d _ bt bt;exact d _ bt bt;exact d _ bt bt;exact n _;rintro⟨_,_⟩;apply a7<;>intro a;exact aho;exact aho
theorem abH(l:Z kI)(w:l.length<=64)(A:∀s∈l,uf s):T (VB N l) λ_=>True:=by
 unfold VB;refine az (λ_=>True) (λJ g=>?_) (λx _=>ag trivial);refine aP (λs=>0<=s.1.2/\s.1.2<=l.length/\(s.1.1.length:Int)<=1+s.1.2*64) (λs=>(l.length-s.1.2).toNat) ⟨aE,aE,aE⟩ dY ?_;rintro rec ⟨⟨st,B⟩,u⟩ ⟨b,h,i⟩ j;dsimp only at b h i;have C:(st.length:Int)<=4200:=M;refine ao (λa=>?_) (λ_=>g _ trivial);simp only[aU]at a;rw[fG M M];refine aH M M λz D _=>bY cM (ao (λ_=>ag trivial) λe=>ao (λ_=>ag trivial) λc=>?_);simp only[qn,gH,cY,x6]at e c;subst e;refine aH b c λx E d=>ao (λ_=>ag trivial) λm=>aH b c λn G o=>?_;simp only[cY,iB]at m;obtain rfl:x=n:=cr (d.symm.trans o);rw[fG (x:=(x.args.length:Int)-1) M M];refine aP (λs=>-1<=s.1.2/\s.1.2<x.args.length/\(s.1.1.length:Int)<=st.length-1+(x.args.length-1-s.1.2)) (λs=>(s.1.2+1).toNat) ⟨dY,dY,by dsimp only;rw[jE];omega⟩ dY ?_;rintro H ⟨⟨I,k⟩,K⟩ ⟨p,f,q⟩ r;dsimp only at p f q;refine ao (λa=>?_) (λa=>?_)
 .simp only[aU]at a;refine aH b c λt L v=>?_;obtain rfl:x=t:=cr (d.symm.trans v);refine aH a f λy _ _=>bY (dG cM cM) (r _ ⟨?_,?_,?_⟩ ?_)<;>dsimp only<;>rw[fG M M]<;>(try simp)<;>omega
 .simp only[cY,x6]at a;refine j _ ⟨?_,?_,?_⟩ ?_<;>dsimp only<;>rw[fG M M]<;>omega
theorem WJ(l:Z kI)(m:l.length<=1048576)(c:∀s∈l,uf s):T (Sv N l) λ_=>True:=by have g:=λs d=>(c s d).name;have h:=λs d=>(c s d).args;unfold Sv;apply a7<;>intro a;exact aho;refine ahq (λJ i=>?_) ?_;refine ahp (↑l.length) λrec _ _ n o b=>?_;dsimp only;apply a7<;>intro a;refine aH an an λx e p=>?_;have f:=c x e;have f:=g x e;have f:=h x e;apply a7<;>intro a;exact aho;apply a7<;>intro a;exact aho;apply aO<;>intro a;apply ba<;>intro a;exact aho;apply ba<;>intro a;contradiction;apply a7<;>intro a;exact aho;apply ba<;>intro a;apply ba<;>intro a;exact aho;apply ba<;>intro a;apply a7<;>intro a;exact aho;exact b _ bt bt;exact b _ dY dY;apply ba<;>intro a;apply a7<;>intro a;exact aho;exact b _ dY dY;exact b _ dY dY;apply ba<;>intro a;refine ap (uh an _ an) λy j k=>?_;apply bZ<;>intro a;exact aho;apply a7<;>intro a;exact aho;apply ba<;>intro a;apply ba<;>intro a;exact aho;apply ba<;>intro a;apply a7<;>intro a;exact aho;exact b _ bt bt;exact b _ bt bt;apply ba<;>intro a;apply a7<;>intro a;exact aho;exact b _ bt bt;exact b _ dY dY;contradiction;exact i _;rintro⟨_,_⟩;refine ap (abH an _ M an) λy j k=>?_;apply bZ<;>intro a;exact aho;exact aho
theorem agi(q:cV)(i:Int)(d:OZ q):T (F88 N (q,i)) λ_=>True:=by obtain⟨e,f,g,h,j⟩:=d;unfold F88;apply ht<;>intro a;exact aho;refine ap (uh an _ an) λy b c=>?_;apply bZ<;>intro a;exact aho;refine ap (WJ an _ an an) λy b c=>?_;apply ba<;>intro a;exact aho;refine ap (WJ an _ an an) λy b c=>?_;apply ba<;>intro a;exact aho;exact aho
theorem agj(l:cW)(i:Int)(j:nF l)(h0:0<=i)(k:i<l.dv.length):T (F89 N (l,i)) λ_=>True:=by obtain⟨k,o,p,q,r,s,t,u,v,w,z,g,h,A,B,C⟩:=id j;unfold F89;refine aH an an λx a c=>?_;have d:=g x a;have d:=h x a;apply ht<;>intro b;exact aho;refine ap (uh an _ an) λy D E=>?_;apply bZ<;>intro b;exact aho;refine ahq (λJ e=>?_) ?_;refine ahp i λrec _ _ m n f=>?_;dsimp only;apply a7<;>intro b;refine aH an M λx a c=>?_;have d:=g x a;have d:=h x a;apply aO<;>intro b;exact aho;exact f _ bt bt;exact e _;rintro⟨_,_⟩;apply a7<;>intro b;exact aho;refine ahq (λJ e=>?_) ?_;refine ahp (↑x.cells.length) λrec _ _ m n f=>?_;dsimp only;apply a7<;>intro b;refine aH an an λx a c=>?_;apply a7<;>intro b;exact aho;refine aH an an λx a c=>?_;apply a7<;>intro b;exact aho;refine aH an an λx a c=>aH an an λx a c=>?_;apply a7<;>intro b;exact aho;exact f _ bt bt;exact e _;rintro⟨_,_⟩;exact aho
theorem agk(l:cW)(i:Int)(j:nF l)(h0:0<=i)(k:i<l.ch.length):T (F90 N (l,i)) λ_=>True:=by obtain⟨k,o,p,q,r,s,t,u,v,w,z,A,B,C,g,h⟩:=id j;unfold F90;refine aH an an λx a c=>?_;have d:=g x a;have d:=h x a;apply ht<;>intro b;exact aho;refine ap (uh an _ an) λy D E=>?_;apply bZ<;>intro b;exact aho;refine ahq (λJ e=>?_) ?_;refine ahp i λrec _ _ m n f=>?_;dsimp only;apply a7<;>intro b;refine aH an M λx a c=>?_;have d:=g x a;have d:=h x a;apply aO<;>intro b;exact aho;exact f _ bt bt;exact e _;rintro⟨_,_⟩;apply a7<;>intro b;exact aho;refine ahq (λJ e=>?_) ?_;refine ahp (↑x.eb.length) λrec _ _ m n f=>?_;dsimp only;apply a7<;>intro b;refine aH an an λx a c=>?_;apply a7<;>intro b;exact aho;refine aH an an λx a c=>?_;apply a7<;>intro b;exact aho;refine aH an an λx a c=>aH an an λx a c=>?_;apply a7<;>intro b;exact aho;exact f _ bt bt;exact e _;rintro⟨_,_⟩;exact aho
theorem agl(l:cW)(h:nF l):T (F36 N l) λ_=>True:=by obtain⟨k,m,n,o,p,q,r,s,t,i,u,v,w,z,A,B⟩:=id h;unfold F36;refine ap (uh an _ an) λy a b=>?_;apply bZ<;>intro c;exact ap (Jf an _ _ _ _) λy a b=>aho;apply a7<;>intro c;exact ap (Jf an _ _ _ _) λy a b=>aho;refine ahq (λJ d=>?_) ?_;refine ahp (↑l.pZ.length) λrec _ _ f g e=>?_;dsimp only;apply a7<;>intro c;refine ap (age an _ _ an an an) λy a b=>?_;apply ba<;>intro c;exact ap (Jf an _ _ _ _) λy a b=>aho;exact e _ bt bt;exact d _;rintro⟨_,_⟩;refine ahq (λJ d=>?_) ?_;refine ahp (↑l.br.length) λrec _ _ f g e=>?_;dsimp only;apply a7<;>intro c;refine ap (agf an _ _ an an an) λy a b=>?_;apply ba<;>intro c;exact ap (Jf an _ _ _ _) λy a b=>aho;exact e _ bt bt;exact d _;rintro⟨_,_⟩;refine ahq (λJ d=>?_) ?_;refine ahp (↑l.dx.length) λrec _ _ f g e=>?_;dsimp only;apply a7<;>intro c;refine ap (agh an _ _ an an an) λy a b=>?_;apply ba<;>intro c;exact ap (Jf an _ _ _ _) λy a b=>aho;exact e _ bt bt;exact d _;rintro⟨_,_⟩;refine ahq (λJ d=>?_) ?_;refine ahp (↑l.equations.length) λrec _ _ f g e=>?_;dsimp only;apply a7<;>intro c;refine aH an an λx j C=>have D:=i x j;ap (agi an _ _ an) λy a b=>?_;apply ba<;>intro c;exact ap (Jf an _ _ _ _) λy a b=>aho;exact e _ bt bt;exact d _;rintro⟨_,_⟩;refine ahq (λJ d=>?_) ?_;refine ahp (↑l.dv.length) λrec _ _ f g e=>?_;dsimp only;apply a7<;>intro c;refine ap (agj an _ _ an an an) λy a b=>?_;apply ba<;>intro c;exact ap (Jf an _ _ _ _) λy a b=>aho;exact e _ bt bt;exact d _;rintro⟨_,_⟩;refine ahq (λJ d=>?_) ?_;refine ahp (↑l.ch.length) λrec _ _ f g e=>?_;dsimp only;apply a7<;>intro c;refine ap (agk an _ _ an an an) λy a b=>?_;apply ba<;>intro c;exact ap (Jf an _ _ _ _) λy a b=>aho;exact e _ bt bt;exact d _;rintro⟨_,_⟩;exact aho
end
def cs(ls:Z cW):Z dt:=ls.flatMap (·.br)
def iv(ls:Z cW)(c:cI):V dt:=(cs ls).find? λx=>x.name==c
def mh(ls:Z cW):Nat->V dt->Z dt
 |0,_=>[]|_,Y=>[]
 |n+1,O x=>x::mh ls n (iv ls x.de)
def ij(ls:Z cW)(c:cI):Z dt:=mh ls 129 (iv ls c)
def wi(l:Z dt)(c:dt):dt:=⟨c.name,c.de,c.lO,l.reverse.flatMap (·.bl),l.reverse.flatMap (·.bj),l.reverse.flatMap (·.ab)⟩
structure jx(ls:List cW):Prop where
 len:ls.length<=1048576
 all:∀l∈ls,nF l
def SA{l:cW}(h1:l∈ls)(a:c∈l.br):c∈cs ls:=EW.2 ⟨l,h1,a⟩
def jx.cpt (h:jx ls) (a:c∈cs ls):qD c:=by obtain⟨l,b,a⟩:=EW.1 a;exact(h.all l b).aw c a
def sj{c:cI}{x:dt}(h:iv ls c=O x):x∈cs ls/\x.name=c:=⟨List.mem_of_find?_eq_some h,by have:=List.find?_some h;simpa using this⟩
def qb{ls:Z cW}:∀(n:Nat)(o:V dt),(∀x,o=O x->x∈cs ls)->∀x∈mh ls n o,x∈cs ls
 |0,_,_,x,a=>by cases a
 |n+1,Y,_,x,a=>by cases a
 |n+1,O y,h,x,a=>by
  rcases cT.1 a with rfl|a
  .exact h _ rfl
  .exact qb n _ (λz b=>(sj b).1) x a
def Cr{ls:Z cW}:∀(n:Nat)(o:V dt),(mh ls n o).length<=n
 |0,_=>a6 _|n+1,Y=>dS _
 |n+1,O y=>by have:=Cr (ls:=ls) n (iv ls y.de);simp only[mh,ec];omega
def Cs(ls:Z cW)(c:cI):(ij ls c).length<=129:=Cr _ _
def LH{x:dt}(h:x∈cs ls):∃y,iv ls x.name=O y:=by
 cases e:iv ls x.name with
 |some y=>exact ⟨y,rfl⟩|none=>have:=List.find?_eq_none.1 e x h;simp at this
def rO{c:cI}{y:dt}(h:iv ls c=O y):ij ls c=y::mh ls 128 (iv ls y.de):=by unfold ij;rw[h];rfl
def lQ(ls:Z cW)(c:cI)(y:dt):dt:=wi (ij ls c) y
def jy{α β:Type}{k:Nat}{f:α->Z β}:∀{l:Z α},(∀x∈l,(f x).length<=k)->(l.flatMap f).length<=l.length*k
 |[],_=>aE|x::l,h=>by have b:=h x aE;have c:=jy (l:=l) λy a=>h y (by simp[a]);simp only[sD,ey,ec,eO,jG];omega
def O5{l:Z α}{q:α->tl}{i:Nat}{x:α}(h:l[i]?=O x):(l.drop i).find? q=if q x=W then O x else(l.drop (i+1)).find? q:=by obtain⟨hi,rfl⟩:=aY.1 h;rw[x7 hi,L7];cases h:q l[i]<;>simp
section
variable{N:Nat}(hN:1073741824<=N)
include hN
def Zn:dt:=⟨[],[],F,[],[],[]⟩
theorem abI(l:cW)(c:cI)(m:l.br.length<=1048576):T (VC N (l,c)) λr=>r=match l.br.find? λx=>x.name==c with
  |some x=>(x,W)|none=>(Zn,F):=by
 unfold VC;refine az (λ_=>l.br.find? (λx=>x.name==c)=Y) (λJ h=>?_) (λx f=>ag (by rw[f];rfl));refine aP (λs=>0<=s.1/\s.1<=l.br.length/\l.br.find? (λx=>x.name==c)=(l.br.drop s.1.toNat).find? λx=>x.name==c) (λs=>(l.br.length-s.1).toNat) ⟨aE,aE,aE⟩ dY ?_;rintro rec ⟨p,u⟩ ⟨d,i,a⟩ j;dsimp only at d i a;refine ao (λb=>?_) (λb=>?_)
 .simp only[aU]at b;refine aH d b λx f g=>?_;rw[O5 g]at a;refine ao (λe=>?_) (λe=>?_)
  .refine aH d b λy n k=>?_;obtain rfl:x=y:=cr (g.symm.trans k);rw[aj e]at a;rw[a];exact ag rfl
  .rw[ai (by simp[e])]at a;refine j _ ⟨?_,?_,?_⟩ ?_<;>dsimp only<;>rw[fG M M]
   .omega
   .omega
   .rw[a,(M:(p+1).toNat=p.toNat+1)]
   .omega
 .simp only[cY,iB]at b;refine h _ ?_;rw[a,Py M];rfl
theorem Dv(ls:Z cW)(c:cI)(g:jx ls):T (OY N (ls,c)) λr=>(match iv ls c with
  |some x=>r.1=x/\r.2.2=W|none=>r.1=Zn/\r.2.2=F):=by
 have n:=g.len;unfold OY iv;refine az (λ_=>(cs ls).find? (λx=>x.name==c)=Y) (λJ j=>?_) (λx f=>ag (by rw[f];exact ⟨rfl,rfl⟩));refine aP (λs=>0<=s.1/\s.1<=ls.length/\(cs ls).find? (λx=>x.name==c)=(cs (ls.drop s.1.toNat)).find? λx=>x.name==c) (λs=>(ls.length-s.1).toNat) ⟨aE,aE,aE⟩ dY ?_;rintro rec ⟨p,u⟩ ⟨h,k,a⟩ l;dsimp only at h k a;refine ao (λb=>?_) (λb=>?_)
 .simp only[aU]at b;refine aH h b λx f m=>?_;have e:cs (ls.drop p.toNat)=x.br++cs (ls.drop (p.toNat+1)):=by obtain⟨hi,rfl⟩:=aY.1 m;rw[x7 hi];rfl
  rw[e,List.find?_append]at a;refine aF (abI hN x c (g.all x f).br) λr d=>?_;cases i:x.br.find? λx=>x.name==c with
  |some y=>rw[i]at d a;subst d;rw[a];exact ag ⟨rfl,rfl⟩|none=>
   rw[i]at d a;subst d;refine l _ ⟨?_,?_,?_⟩ ?_<;>dsimp only<;>rw[fG M M]
   .omega
   .omega
   .rw[a,(M:(p+1).toNat=p.toNat+1)];rfl
   .omega
 .simp only[cY,iB]at b;refine j _ ?_;rw[a,Py M];rfl
theorem agm(ls:Z cW)(n i:Int)(l:cW)(c:jx ls)(h0:0<=n)(j:n<ls.length)(d:aR ls n=O l)(k:l∈ls)(m:0<=i)(o:i<l.br.length):T (F37 N (ls,n,i)) λ_=>True:=by have p:=c.len;unfold F37;simp only[d];refine ahq (λJ e=>?_) ?_;refine aP (λst=>0<=st.fst.snd/\st.fst.snd<=n) (λst=>(n-st.fst.snd).toNat) dY dY ?_;rintro rec ⟨⟨_,_⟩,_⟩ b f;dsimp only at b;dsimp only;obtain⟨q,r⟩:=b;apply a7<;>intro a;exact aH an M λx g h=>f _ bt bt;exact e _;rintro⟨_,_⟩;apply ht<;>intro a;simp only[aU]at a;exact aho;simp only[aU]at a;refine fh ?_;refine aH an an λx g h=>ap (Dv an _ _ an) λy s t=>?_;apply a7<;>intro a;exact aho;exact aho
theorem SB(ls:Z cW)(c:cI)(i:jx ls):T (Zm N (ls,c)) λr=>r=ij ls c/\r.length<=129:=by
 unfold Zm;refine aF (Dv hN ls c i) λy a=>?_;refine az (λs=>s.1=ij ls c) (λJ j=>?_) (λx k=>ag ⟨k,by rw[k];exact Cs ls c⟩);refine aP (λs=>s.1.1.length<=129/\∃o:V dt,s.1.2.1=o.isSome/\(∀x,o=O x->(dt.mk s.1.2.2.1 s.1.2.2.2.1 s.1.2.2.2.2.1 s.1.2.2.2.2.2.1 s.1.2.2.2.2.2.2.1 s.1.2.2.2.2.2.2.2)=x)/\s.1.1++mh ls (129-s.1.1.length) o=ij ls c) (λs=>129-s.1.1.length) ⟨aE,iv ls c,?_,?_,?_⟩ dY ?_
 .cases h:iv ls c with
  |none=>rw[h]at a;exact a.2|some x=>rw[h]at a;exact a.2
 .intro x h;rw[h]at a;rw[a.1]
 .rfl
 rintro rec ⟨⟨out,q,t,l,v,w,A,B⟩,u⟩ ⟨n,o,e,m,b⟩ p;dsimp only at n e m b;refine ao (λf=>ao (λg=>?_) (λg=>?_)) (λf=>?_)
 .obtain ⟨x,rfl⟩:=Ab.1 (e.symm.trans f);obtain rfl:=m x rfl;simp only[aU]at g;refine bY (dG cM cM) (aF (Dv hN ls _ i) λz d=>p _ ⟨?_,iv ls l,?_,?_,?_⟩ ?_)
  .simp;omega
  .cases h:iv ls l with
   |none=>rw[h]at d;exact d.2|some x=>rw[h]at d;exact d.2
  .intro x h;rw[h]at d;rw[<-d.1]
  .rw[<-b,(M:129-out.length=(129-(out.length+1))+1)];simp[mh]
  .simp;omega
 .simp only[cY,x6]at g;refine j _ ?_;rw[(M:129-out.length=0)]at b;simpa[mh]using b
 .refine j _ ?_;cases o with
  |some x=>rw[f]at e;cases e
  |none=>
   have:mh ls (129-out.length) Y=[]:=by cases 129-out.length<;>rfl
   rw[this]at b;simpa using b
theorem agn(ls:Z cW)(n i:Int)(l:cW)(f:jx ls)(h0:0<=n)(u:n<ls.length)(k:aR ls n=O l)(m:l∈ls)(o:0<=i)(p:i<l.br.length):T (F38 N (ls,n,i)) λ_=>True:=by
 have v:=f.len;unfold F38;simp only[k,aM];refine aH o p λx c g=>?_;obtain⟨y,b⟩:=LH (SA m c);have q:∀r:Z dt,r=ij ls x.name/\r.length<=129->0<r.length/\r.length<=129:=λr h=>⟨by rw[h.1,rO b];simp,h.2⟩
 have SB:=dr (SB hN ls x.name f) q;refine ap (Dv an _ _ an) λy b j=>?_;apply ba<;>intro a;apply bZ<;>intro a;exact aho;refine ap (SB) λy b j=>ahq (λJ d=>?_) ?_;refine ahp (↑y.length) λrec _ _ s t e=>?_;dsimp only;apply a7<;>intro a;refine aH an an λx c g=>?_;apply aO<;>intro a;exact aho;exact e _ bt bt;exact d _;rintro⟨_,_⟩;exact aho;refine ap (SB) λy b j=>ahq (λJ d=>?_) ?_;refine ahp (↑y.length) λrec _ _ s t e=>?_;dsimp only;apply a7<;>intro a;refine aH an an λx c g=>?_;apply aO<;>intro a;exact aho;exact e _ bt bt;exact d _;rintro⟨_,_⟩;exact aho
theorem VE(ls:Z cW)(c:cI)(y:dt)(j:jx ls)(o:iv ls c=O y):T (Y3 N (ls,c)) λr=>r=lQ ls c y:=by
 unfold Y3;refine aF (SB hN ls c j) λl ⟨d,I⟩=>?_;have k:=rO o;have h0:aR l 0=O y:=by rw[d,k];rfl
 have K:0<l.length:=by rw[d,k];simp
 have g:∀x∈l,qD x:=λx b=>j.cpt (qb _ _ (λz a=>(sj a).1) x (d▸b));simp only[h0,aM];refine az (λs=>s.1=(y.name,y.de,y.lO,(lQ ls c y).bl,(lQ ls c y).bj,(lQ ls c y).ab)) (λJ q=>?_) (λx b=>ag ?_);rotate_left
 .obtain ⟨⟨t,v,w,A,B,C⟩,u⟩:=x;cases b;rfl
 rw[fG M M];refine aP (λs=>-1<=s.1.1/\s.1.1<l.length/\s.1.2=(y.name,y.de,y.lO,(l.drop (s.1.1+1).toNat).reverse.flatMap (·.bl),(l.drop (s.1.1+1).toNat).reverse.flatMap (·.bj),(l.drop (s.1.1+1).toNat).reverse.flatMap (·.ab))) (λs=>(s.1.1+1).toNat) ⟨dY,dY,?_⟩ dY ?_
 .dsimp only;rw[(M:((l.length:Int)-1+1).toNat=l.length),List.drop_length];rfl
 rintro rec ⟨⟨p,t,v,w,A,B,C⟩,u⟩ ⟨D,m,n⟩ E;dsimp only at D m n;cases n;refine ao (λh=>?_) (λh=>?_)
 .simp only[aU]at h;obtain⟨x,e,b,G⟩:=ib h m;have H:l.drop p.toNat=x::l.drop (p+1).toNat:=by obtain⟨hi,rfl⟩:=aY.1 G;rw[x7 hi,(M:(p+1).toNat=p.toNat+1)]
  have L:(l.drop (p+1).toNat).reverse.length<=129:=cM;have i:∀z∈(l.drop (p+1).toNat).reverse,qD z:=λz a=>g z (zT (List.mem_reverse.1 a));have P:=jy (f:=λx:dt=>x.bl) λz a=>(i z a).bl;have Q:=jy (f:=λx:dt=>x.bj) λz a=>(i z a).bj;have R:=jy (f:=λx:dt=>x.ab) λz a=>(i z a).ab;have S:=(g x b).bl;have U:=(g x b).bj;have X:=(g x b).ab;simp only[e,aM];refine bY (dG M M) (bY (dG M M) (bY (dG M M) (E _ ⟨?_,?_,?_⟩ ?_)))
  .dsimp only;rw[fG M M];omega
  .dsimp only;rw[fG M M];omega
  .dsimp only;rw[fG M M,(M:(p-1+1).toNat=p.toNat),H];simp[qS]
  .dsimp only;rw[fG M M];omega
 .simp only[cY,x6]at h;refine q _ ?_;dsimp only;rw[(M:(p+1).toNat=0),uF,d];rfl
omit hN in
theorem ui:∀{l:Z dt},(l.map (·.name)).Nodup->∀{x:dt},x∈l->l.find? (λy=>y.name==x.name)=O x
 |y::l,b,x,a=>by
  simp only[dy,lV]at b;rw[L7];rcases cT.1 a with rfl|a
  .simp
  .have:(y.name==x.name)=F:=by simp only[ic,ne_eq];exactλe=>b.1 (e▸EX a)
   rw[this];exact ui b.2 a
omit hN in
theorem zE(ls:Z cW)(d:jx ls)(c:cI)(x:dt)(e:iv ls c=O x):(lQ ls c x).bl.length<=136314880/\(lQ ls c x).bj.length<=136314880/\(lQ ls c x).ab.length<=136314880/\x.bl.length<=(lQ ls c x).bl.length/\x.bj.length<=(lQ ls c x).bj.length/\x.ab.length<=(lQ ls c x).ab.length:=by
 have h:(ij ls c).reverse.length<=129:=by rw[List.length_reverse];exact Cs ls c
 have b:∀z∈(ij ls c).reverse,qD z:=λz a=>d.cpt (qb _ _ (λz a=>(sj a).1) z (List.mem_reverse.1 a));have i:=jy (f:=λx:dt=>x.bl) λz a=>(b z a).bl;have j:=jy (f:=λx:dt=>x.bj) λz a=>(b z a).bj;have k:=jy (f:=λx:dt=>x.ab) λz a=>(b z a).ab;have g:=rO e;simp only[lQ,wi];refine⟨M,M,M,?_,?_,?_⟩<;>simp only[g,List.reverse_cons,qS,sD,DB,ey,zK]<;>omega
theorem ago(ls:Z cW)(n i:Int)(l:cW)(k:jx ls)(o:((cs ls).map (·.name)).Nodup)(h0:0<=n)(G:n<ls.length)(p:aR ls n=O l)(q:l∈ls)(r:0<=i)(s:i<l.br.length):T (F39 N (ls,n,i)) λ_=>True:=by have H:=k.len;unfold F39;simp only[p,aM];refine aH r s λx d e=>?_;have m:iv ls x.name=O x:=ui o (SA q d);obtain⟨t,u,v,w,z,A⟩:=zE ls k x.name x m;refine aF (VE hN ls x.name x k m) λy j=>?_;rw[<-j]at t u v w z A;clear j;refine ahq (λJ b=>?_) ?_;refine aP (λst=>0<=st.fst.snd/\st.fst.snd<=↑y.bl.length) (λst=>(↑y.bl.length-st.fst.snd).toNat) ?_ ?_ ?_;exact bt;exact bt;rintro rec ⟨⟨_,B⟩,_⟩ f c;dsimp only at f;dsimp only;obtain⟨g,h⟩:=f;apply a7<;>intro a;refine ahq (λJ b=>?_) ?_;apply ht<;>intro a;exact aho;refine ahp B λrec _ _ g h c=>?_;dsimp only;apply a7<;>intro a;refine aH an M λx d e=>aH an an λx d e=>?_;apply aO<;>intro a;exact aho;exact c _ bt bt;exact b _;rintro⟨_,_⟩;exact c _ bt bt;exact b _;rintro⟨_,_⟩;refine ahq (λJ b=>?_) ?_;refine aP (λst=>0<=st.fst.snd/\st.fst.snd<=↑y.bj.length) (λst=>(↑y.bj.length-st.fst.snd).toNat) ?_ ?_ ?_;exact bt;exact bt;rintro rec ⟨⟨_,C⟩,_⟩ f c;dsimp only at f;dsimp only;obtain⟨g,h⟩:=f;apply a7<;>intro a;apply ht<;>intro a;exact aho;refine ahq (λJ b=>?_) ?_;refine ahp C λrec _ _ g h c=>?_;dsimp only;apply a7<;>intro a;refine aH an M λx d e=>aH an an λx d e=>?_;apply aO<;>intro a;exact aho;exact c _ bt bt;exact b _;rintro⟨_,_⟩;refine aH an an λx d e=>ap (Dv an _ _ an) λy j D=>?_;apply bZ<;>intro a;exact aho;exact c _ bt bt;exact b _;rintro⟨_,_⟩;refine ahq (λJ b=>?_) ?_;refine aP (λst=>0<=st.fst.snd/\st.fst.snd<=↑y.ab.length) (λst=>(↑y.ab.length-st.fst.snd).toNat) ?_ ?_ ?_;exact bt;exact bt;rintro rec ⟨⟨_,E⟩,_⟩ f c;dsimp only at f;dsimp only;obtain⟨g,h⟩:=f;apply a7<;>intro a;apply ht<;>intro a;exact aho;refine ahq (λJ b=>?_) ?_;refine ahp E λrec _ _ g h c=>?_;dsimp only;apply a7<;>intro a;refine aH an M λx d e=>aH an an λx d e=>?_;apply aO<;>intro a;exact aho;exact c _ bt bt;exact b _;rintro⟨_,_⟩;refine aH an an λx d e=>ap (Dv an _ _ an) λy j D=>?_;apply bZ<;>intro a;exact aho;exact c _ bt bt;exact b _;rintro⟨_,_⟩;exact aho
theorem agp(ls:Z cW)(n i:Int)(l:cW)(e:jx ls)(h0:0<=n)(A:n<ls.length)(j:aR ls n=O l)(B:l∈ls)(q:0<=i)(s:i<l.dx.length):T (F94 N (ls,n,i)) λ_=>True:=by
 have C:=e.len;have t:=λl u=>(e.all l u).dx;unfold F94;simp only[j,aM];refine aH q s λx g k=>aF (Dv hN ls x.aw e) λy h=>ao (λ_=>ag trivial) λa=>?_;cases m:iv ls x.aw with
 |none=>rw[m]at h;rw[h.2]at a;cases a
 |some c=>have v:=(zE ls e x.aw c m).2.2.1;have VE:=dr (P:=λr=>r=lQ ls x.aw c) (Q:=λr=>r.ab.length<=136314880) (VE hN ls x.aw c e m) (λr w=>by rw[w];exact v);clear h;refine ahq (λJ b=>?_) ?_;apply ao<;>intro a;refine ap (VE) λy h D=>ahq (λJ b=>?_) ?_;refine aP (λst=>0<=st.fst.snd/\st.fst.snd<=↑y.ab.length) (λst=>(↑y.ab.length-st.fst.snd).toNat) dY dY ?_;rintro rec ⟨⟨_,_⟩,_⟩ f d;dsimp only at f;dsimp only;obtain⟨o,p⟩:=f;apply a7<;>intro a;apply ao<;>intro a;exact d _ bt bt;exact aH an an λx g k=>d _ bt bt;exact b _;rintro⟨_,_⟩;apply bZ<;>intro a;simp only[aU]at a;exact aho;simp only[aU]at a;exact b _;exact b _;rintro⟨_,_⟩;refine ahq (λJ b=>?_) ?_;refine aP (λst=>0<=st.fst/\st.fst<=n) (λst=>(n-st.fst).toNat) M M ?_;rintro rec ⟨z,_⟩ f d;dsimp only at f;dsimp only;obtain⟨o,p⟩:=f;apply a7<;>intro a;refine ahq (λJ b=>?_) ?_;refine se (l:=ls) (i:=z) an M λx j g k=>?_;simp only[j];have E:=t x g;refine ahp (↑x.dx.length) λrec _ _ o p d=>fh ?_;apply a7<;>intro a;refine fh ?_;refine aH an an λx g k=>?_;apply aO<;>intro a;apply aO<;>intro a;apply aO<;>intro a;exact aho;exact d _ bt bt;exact d _ bt bt;exact d _ bt bt;exact b _;rintro⟨_,_⟩;exact d _ bt bt;exact b _;rintro⟨_,_⟩;exact aho
theorem agq(ls:Z cW)(n:Int)(o:jx ls)(h0:0<=n)(w:n<ls.length):T (F40 N (ls,n)) λ_=>True:=by have B:=o.len;obtain⟨l,p,r,_⟩:=ib h0 w;have s:=λl g=>(o.all l g).dx;have t:=λl g=>(o.all l g).equations;have u:=λl g=>(o.all l g).dv;have v:=λl g=>(o.all l g).ch;have C:=s l r;have D:=t l r;have E:=u l r;have G:=v l r;unfold F40;simp only[p,aM];refine ahq (λJ a=>?_) ?_;refine ahp (↑l.dx.length) λrec _ _ h j b=>?_;dsimp only;apply a7<;>intro d;refine ap (agp ?_ _ _ _ ?_ ?_ ?_ ?_ ?_ ?_ ?_ ?_) λy e f=>?_;trivial;trivial;trivial;trivial;trivial;trivial;trivial;trivial;trivial;apply ba<;>intro d;exact ap (Du an _ _ _ _ _) λy e f=>aho;exact b _ bt bt;exact a _;rintro⟨_,_⟩;refine ahq (λJ a=>?_) ?_;refine ahp (↑l.equations.length) λrec _ _ h j b=>?_;dsimp only;apply a7<;>intro d;refine aH an an λx c m=>ap (Dv an _ _ an) λy e f=>?_;apply bZ<;>intro d;exact ap (Du an _ _ _ _ _) λy e f=>aho;exact b _ bt bt;exact a _;rintro⟨_,_⟩;refine ahq (λJ a=>?_) ?_;refine ahp (↑l.dv.length) λrec _ _ h j b=>?_;dsimp only;apply a7<;>intro d;refine ahq (λJ a=>?_) ?_;refine aH an an λx c m=>ap (Dv an _ _ an) λy e f=>?_;apply bZ<;>intro d;exact ap (Du an _ _ _ _ _) λy e f=>aho;refine aP (λst=>0<=st.fst/\st.fst<=n) (λst=>(n-st.fst).toNat) M M ?_;rintro rec ⟨z,_⟩ q b;dsimp only at q;dsimp only;obtain⟨h,j⟩:=q;apply a7<;>intro d;refine ahq (λJ a=>?_) ?_;refine se (l:=ls) (i:=z) an M λx p c m=>?_;simp only[p];have k:=s x c;have k:=t x c;have k:=u x c;have k:=v x c;refine ahp (↑x.dv.length) λrec _ _ h j b=>fh ?_;apply a7<;>intro d;refine fh ?_;refine aH an an λx c m=>?_;apply aO<;>intro d;exact ap (Du an _ _ _ _ _) λy e f=>aho;exact b _ bt bt;exact a _;rintro⟨_,_⟩;exact b _ bt bt;exact a _;rintro⟨_,_⟩;exact b _ bt bt;exact a _;rintro⟨_,_⟩;refine ahq (λJ a=>?_) ?_;refine ahp (↑l.ch.length) λrec _ _ h j b=>?_;dsimp only;apply a7<;>intro d;refine ahq (λJ a=>?_) ?_;refine aH an an λx c m=>ap (Dv an _ _ an) λy e f=>?_;apply bZ<;>intro d;exact ap (Du an _ _ _ _ _) λy e f=>aho;refine aP (λst=>0<=st.fst/\st.fst<=n) (λst=>(n-st.fst).toNat) M M ?_;rintro rec ⟨A,_⟩ q b;dsimp only at q;dsimp only;obtain⟨h,j⟩:=q;apply a7<;>intro d;refine ahq (λJ a=>?_) ?_;refine se (l:=ls) (i:=A) an M λx p c m=>?_;simp only[p];have k:=s x c;have k:=t x c;have k:=u x c;have k:=v x c;refine ahp (↑x.ch.length) λrec _ _ h j b=>fh ?_;apply a7<;>intro d;refine fh ?_;refine aH an an λx c m=>?_;apply aO<;>intro d;exact ap (Du an _ _ _ _ _) λy e f=>aho;exact b _ bt bt;exact a _;rintro⟨_,_⟩;exact b _ bt bt;exact a _;rintro⟨_,_⟩;exact b _ bt bt;exact a _;rintro⟨_,_⟩;exact aho
theorem agr(ls:Z cW)(o:jx ls)(u:((cs ls).map (·.name)).Nodup):T (F20 N ls) λ_=>True:=by have v:=o.len;have m:=o.all;have n:=λl q=>(o.all l q).br;unfold F20;apply a7<;>intro b;exact ap (Du an _ _ _ _ _) λy f e=>aho;refine ahq (λJ a=>?_) ?_;refine ahp (↑ls.length) λrec _ _ h j c=>?_;dsimp only;apply a7<;>intro b;refine aH an an λx d p=>have g:=m x d;have g:=n x d;ap (agl an _ an) λy f e=>?_;apply ba<;>intro b;exact ap (Du an _ _ _ _ _) λy f e=>aho;exact c _ bt bt;exact a _;rintro⟨_,_⟩;refine ahq (λJ a=>?_) ?_;refine aP (λst=>0<=st.fst/\st.fst<=↑ls.length) (λst=>(↑ls.length-st.fst).toNat) M M ?_;rintro rec ⟨r,_⟩ k c;dsimp only at k;dsimp only;obtain⟨h,j⟩:=k;apply a7<;>intro b;refine ahq (λJ a=>?_) ?_;refine ahp r λrec _ _ h j c=>?_;dsimp only;apply a7<;>intro b;refine aH an M λx d p=>have g:=m x d;have g:=n x d;aH an an λx d p=>?_;have g:=m x d;have g:=n x d;apply aO<;>intro b;exact ap (Du an _ _ _ _ _) λy f e=>aho;exact c _ bt bt;exact a _;rintro⟨_,_⟩;exact c _ bt bt;exact a _;rintro⟨_,_⟩;refine ahq (λJ a=>?_) ?_;refine ahp 3 λrec _ _ h j c=>?_;dsimp only;apply a7<;>intro b;refine ahq (λJ a=>?_) ?_;refine aP (λst=>0<=st.fst/\st.fst<=↑ls.length) (λst=>(↑ls.length-st.fst).toNat) M M ?_;rintro rec ⟨s,_⟩ k c;dsimp only at k;dsimp only;obtain⟨h,j⟩:=k;apply a7<;>intro b;refine ahq (λJ a=>?_) ?_;refine se (l:=ls) (i:=s) an an λx t d p=>?_;simp only[t];have g:=m x d;have g:=n x d;refine ahp (↑x.br.length) λrec _ _ h j c=>fh ?_;apply a7<;>intro b;refine ahq (λJ a=>?_) ?_;apply aO<;>intro b;refine ap (agm ?_ _ _ _ ?_ ?_ ?_ ?_ ?_ ?_ ?_ ?_) λy f e=>?_;trivial;trivial;trivial;trivial;trivial;trivial;trivial;trivial;trivial;exact a _;apply aO<;>intro b;refine ap (agn ?_ _ _ _ ?_ ?_ ?_ ?_ ?_ ?_ ?_ ?_) λy f e=>?_;trivial;trivial;trivial;trivial;trivial;trivial;trivial;trivial;trivial;exact a _;refine ap (ago ?_ _ _ _ ?_ ?_ ?_ ?_ ?_ ?_ ?_ ?_ ?_) λy f e=>?_;trivial;trivial;trivial;trivial;trivial;trivial;trivial;trivial;trivial;trivial;exact a _;rintro⟨⟨_,_⟩,_⟩;apply ba<;>intro b;simp only[aU]at b;refine ap (Du an _ _ _ _ _) λy f e=>?_;dsimp only at e;exact aho;simp only[aU]at b;exact c _ bt bt;exact a _;rintro⟨_,_⟩;exact c _ bt bt;exact a _;rintro⟨_,_⟩;exact c _ bt bt;exact a _;rintro⟨_,_⟩;refine ahq (λJ a=>?_) ?_;refine ahp (↑ls.length) λrec _ _ h j c=>?_;dsimp only;apply a7<;>intro b;refine ap (agq an _ _ an an an) λy f e=>?_;apply ba<;>intro b;exact aho;exact c _ bt bt;exact a _;rintro⟨_,_⟩;exact aho
end
noncomputable def Ct {α:Type} (N:Nat) (d:Z cW) (i:cW->V (Z α)) (j:(Int×Int×α)->Hp->V ((V gW)×Hp)) (h:Hp):V ((V gW)×Hp):=aS (λ((_,k):(xW)×Hp)=>O (Y,k)) λl=>aZ (λm((a,e):(Int)×Hp)=>bif decide (a<(d.length:Int))then aS (λ((_,n):(xW)×Hp)=>m ((IntKind.i64.wrap (a+1)),n)) λo=>(aR d a).bind λp=>(i p).bind λf=>aZ (λq((b,g):(Int)×Hp)=>bif decide (b<(f.length:Int))then(aR f b).bind λr=>(j (a,b,r) g).bind λc=>bif !c.1.isNone then O (c.1,c.2)else q ((IntKind.i64.wrap (b+1)),c.2)else o ((),g)) N (0,e)else l ((),e)) N (0,h)
def iw(r:V gW):Prop:=∃f,r=O f/\f.gd≠0
def iw.some {r:V gW} (h:iw r):r.isNone=F:=by obtain ⟨f,rfl,_⟩:=h;rfl
section
variable{N:Nat}(hN:1073741824<=N)
include hN
theorem qc{m:cW->V (Z α)}{g:(Int×Int×α)->Hp->V ((V gW)×Hp)}{h:Hp}(a:cW->Z α)(v:∀l,m l=O (a l))(X:ls.length<=1048576)(w:∀l∈ls,(a l).length<=1048576)
  (I:Z α->Hp->Prop) (Q:Hp->Prop) (h0:I [] h)
  (step:∀(n i:Int)(l:cW)(x:α)(pre post:Z α)(h:Hp),0<=n->n<ls.length->aR ls n=O l->l∈ls->x∈a l->ls.flatMap a=pre++x::post->I pre h->T (g (n,i,x) h) λr=>(r.1=Y/\I (pre++[x]) r.2)∨(iw r.1/\Q r.2)):
  T (Ct N ls m g h) λr=>(r.1=Y/\I (ls.flatMap a) r.2)∨(iw r.1/\Q r.2):=by
 unfold Ct;refine az (λs=>I (ls.flatMap a) s.2) (λJ y=>?_) (λx b=>ag (.inl ⟨rfl,b⟩));refine aP (λs=>0<=s.1/\s.1<=ls.length/\I ((ls.take s.1.toNat).flatMap a) s.2) (λs=>(ls.length-s.1).toNat) ⟨aE,aE,by simpa using h0⟩ dY ?_;rintro rec ⟨p,a0⟩ ⟨k,z,d⟩ A;dsimp only at k z d;refine ao (λc=>?_) (λc=>?_)
 .simp only[aU]at c;obtain⟨l,hz,hm,o⟩:=ib k c;have B:ls.drop p.toNat=l::ls.drop (p.toNat+1):=by obtain⟨hi,rfl⟩:=aY.1 o;exact x7 hi
  have C:ls.take (p.toNat+1)=ls.take p.toNat++[l]:=by obtain⟨hi,rfl⟩:=aY.1 o;exact(ah hi).symm
  have D:ls.flatMap a=(ls.take p.toNat).flatMap a++(a l++(ls.drop (p.toNat+1)).flatMap a):=by
   conv=>lhs;rw[<-zV p.toNat ls,B]
   simp
  refine az (λs=>I ((ls.take (p.toNat+1)).flatMap a) s.2) (λb0 E=>?_) (λx b=>A _ ⟨?_,?_,?_⟩ ?_)
  .simp only[hz,v,aM];have c0:=w l hm;refine aP (λs=>0<=s.1/\s.1<=(a l).length/\I ((ls.take p.toNat).flatMap a++(a l).take s.1.toNat) s.2) (λs=>((a l).length-s.1).toNat) ⟨aE,aE,by simpa using d⟩ dY ?_;rintro d0 ⟨q,G⟩ ⟨t,H,f⟩ K;dsimp only at t H f;refine ao (λj=>?_) (λj=>?_)
   .simp only[aU]at j;refine aH t j λx b u=>?_;have L:(a l).drop q.toNat=x::(a l).drop (q.toNat+1):=by obtain⟨hi,rfl⟩:=aY.1 u;exact x7 hi
    have P:(a l).take (q.toNat+1)=(a l).take q.toNat++[x]:=by obtain⟨hi,rfl⟩:=aY.1 u;exact(ah hi).symm
    refine aF (step p q l x ((ls.take p.toNat).flatMap a++(a l).take q.toNat) ((a l).drop (q.toNat+1)++(ls.drop (p.toNat+1)).flatMap a) G k c hz hm b ?_ f) λr R=>?_
    .rw[D];conv=>lhs;rw[<-zV q.toNat (a l),L]
     simp
    .rcases R with⟨e,S⟩|⟨e,U⟩
     .rw[e];refine K _ ⟨?_,?_,?_⟩ ?_<;>dsimp only<;>rw[fG M M]
      .omega
      .omega
      .rw[(M:(q+1).toNat=q.toNat+1),P,<-uE];exact S
      .omega
     .rw[e.some];exact ag (.inr ⟨e,U⟩)
   .simp only[cY,iB]at j;refine E _ ?_;dsimp only;rw[dh (l:=a l) M]at f;rw[C,qS];simpa using f
  .dsimp only;rw[fG M M];omega
  .dsimp only;rw[fG M M];omega
  .dsimp only;rw[fG M M,(M:(p+1).toNat=p.toNat+1)];exact b
  .dsimp only;rw[fG M M];omega
 .simp only[cY,iB]at c;refine y _ ?_;rw[dh M]at d;exact d
theorem nO(a b c d e:Int):T (yN N (a,b,c,d,e)) λr=>e≠0->iw r:=⟨_,rfl,λh=>⟨_,rfl,h⟩⟩
theorem ags(x y:cW):T (F52 N (x,y)) λ_=>True:=⟨_,rfl,trivial⟩
theorem agt(p:V Nat)(ls:Z cW)(j:jx ls):T (F29 N (p,ls)) λr=>(r=Y/\ls.length<=128/\∀c∈cs ls,c.name≠[])∨iw r:=by
 have w:=j.len;have k:=j.all;unfold F29;refine ao (λ_=>aF (nO hN _ _ _ _ _) λy a=>ag (.inr (a cd))) λo=>?_;simp only[cY,iB]at o;refine az (λ_=>∀c∈cs ls,c.name≠[]) (λJ h=>?_) (λx b=>?_)
 .refine aP (λs=>0<=s.1/\s.1<=ls.length/\∀c∈cs (ls.take s.1.toNat),c.name≠[]) (λs=>(ls.length-s.1).toNat) ⟨aE,aE,by simp[cs]⟩ dY ?_;rintro rec ⟨p,u⟩ ⟨l,q,f⟩ i;dsimp only at l q f;refine ao (λd=>?_) (λd=>h _ ?_)
  .simp only[aU]at d;refine aH l d λx b m=>aF (agd hN x (k x b)) λy a=>ao (λg=>?_) (λg=>?_)
   .refine aF (nO hN _ _ _ _ _) λz t=>ag (.inr (t ?_));simpa using g
   .simp only[qn,gH]at g;refine i _ ⟨?_,?_,?_⟩ ?_<;>dsimp only<;>rw[fG M M]
    .omega
    .omega
    .have v:ls.take (p.toNat+1)=ls.take p.toNat++[x]:=by obtain⟨hi,rfl⟩:=aY.1 m;exact(ah hi).symm
     rw[(M:(p+1).toNat=p.toNat+1),v];intro c e;simp only[cs,qS,sD,DB,zK,dR]at e;rcases e with e|e
     .exact f c e
     .exact a g c e
    .omega
  .simp only[cY,iB]at d;rw[dh M]at f;exact f
 .refine az (λ_=>True) (λJ h=>?_) (λ_ _=>ag (.inl ⟨rfl,M,b⟩));clear b;refine ahp (↑ls.length) λrec _ _ A B i=>?_;dsimp only;apply a7<;>intro d;refine aH an an λx b m=>have C:=k x b;bY ?_ ?_;exact jJ;refine ap (af8 an _ _ ?_ ?_) λy a n=>?_;exact jJ;intro x;intro x;refine dr (ags an _ _) λy a=>?_;trivial;apply ao<;>intro d;refine ap (nO an _ _ _ _ _) λy a n=>ag ?_;rotate_left;exact i _ bt bt;apply h;dsimp only;all_goals exact .inr (n cd)
end
def eu(i:Nat):Z dt->Z (cI×V Nat)
 |[]=>[]|c::l=>(c.name,O i)::eu (i+1) l
def wj(i:Nat):Z dt->cI->V Nat
 |[],_=>Y|c::l,s=>if c.name=s then O i else wj (i+1) l s
def qd:∀(l:Z dt)(i:Nat),(eu i l).length=l.length
 |[],_=>rfl|c::l,i=>by simp[eu,qd l]
def yO(c:dt):∀(l:Z dt)(i:Nat),eu i (l++[c])=eu i l++[(c.name,O (i+l.length))]
 |[],i=>by simp[eu]|d::l,i=>by simp[eu,yO c l];omega
def eN(s:cI):∀(l:Z dt)(i:Nat),a8 c7 (eu i l) s=(wj i l s).map O
 |[],_=>rfl|c::l,i=>by
  simp only[eu,a8,wj];by_cases h:c.name=s
  .rw[aj h,h,tZ];rfl
  .rw[ai h,vV (λe=>h e.symm)];exact eN s l (i+1)
def Cu{s:cI}:∀{l:Z dt}{i:Nat},wj i l s=Y->∀c∈l,c.name≠s
 |[],_,_,c,a=>by cases a
 |d::l,i,h,c,a=>by
  simp only[wj]at h;split at h
  .cases h
  .rcases cT.1 a with rfl|a
   .assumption
   .exact Cu h c a
def Cv{s:cI}:∀{l:Z dt}{i k:Nat},wj i l s=O k->i<=k/\∃c,l[k-i]?=O c/\c.name=s
 |[],_,_,h=>by cases h
 |d::l,i,k,h=>by
  simp only[wj]at h;split at h
  .cases h;exact ⟨a6 _,d,aE,by assumption⟩
  .obtain ⟨e,c,a,b⟩:=Cv h;exact⟨M,c,by rw[(M:k-i=(k-(i+1))+1)];exact a,b⟩
def nG(a:(l.map (·.name)).Nodup):∀{i k:Nat}{c:dt},l[k]?=O c->wj i l c.name=O (i+k):=by
 induction l with
 |nil=>intro i k c h;cases h
 |cons d l b=>
  intro i k c h;simp only[dy,lV]at a;cases k with
  |zero=>cases h;simp[wj]
  |succ k=>have f:c∈l:=bF h;have:d.name≠c.name:=λe=>a.1 (e▸EX f);simp only[wj,ai this];rw[b a.2 h];congr 1;omega
abbrev ix(l:Z dt)(s:cI):V Nat:=wj 0 l s
def Cw(h:ix l s=O k):k<l.length/\∃c,l[k]?=O c/\c.name=s:=by obtain⟨_,c,a,b⟩:=Cv h;exact⟨(aY.1 a).1,c,a,b⟩
def wk:iv ls s=(ix (cs ls) s).bind λk=>(cs ls)[k]?:=by
 unfold iv ix;have:∀(l:Z dt)(i:Nat),(wj i l s).isSome=(l.find? λx=>x.name==s).isSome/\∀k,wj i l s=O k->l.find? (λx=>x.name==s)=l[k-i]?:=by
  intro l;induction l with
  |nil=>intro i;exact ⟨rfl,λk h=>by cases h⟩
  |cons c l e=>
   intro i;by_cases h:c.name=s
   .simp only[wj,aj h,L7];rw[show(c.name==s)=W by simp[h]];exact⟨rfl,λk a=>by cases a;simp⟩
   .simp only[wj,ai h,L7];rw[show(c.name==s)=F by simp[h]];obtain⟨b,d⟩:=e (i+1);refine⟨b,λk a=>?_⟩;have:=(Cv a).1;rw[d k a,(M:k-i=(k-(i+1))+1)];rfl
 obtain⟨b,d⟩:=this (cs ls) 0;cases h:wj 0 (cs ls) s with
 |none=>rw[h]at b;simpa using b.symm|some k=>rw[d k h];rfl
def LI(l:Z (V (Z β)))(xs:Z β)(h:xs≠[]):ad (l++[O xs]) (O (l.length,xs.length))=O xs:=by
 have h0:0<xs.length:=by cases xs with|nil=>exact (h rfl).elim|cons=>simp
 have a:Nat.ble xs.length xs.length=W:=td (a6 _);have b:Nat.blt 0 xs.length=W:=td h0;simp[ad,bz,a,b]
def VF(l:Z (V (Z cI)))(p:V (Nat×Nat))(xs:Z cI):Prop:=match p with
 |none=>xs=[]|some (i,n)=>bz l i=O xs/\n=xs.length/\xs≠[]
def VF.hs {l:Z (V (Z cI))} {p:V (Nat×Nat)} (h:VF l p xs):ad l p=O xs:=by
 cases p with
 |none=>rw[show xs=[]from h];rfl|some p=>
  obtain⟨i,n⟩:=p;obtain⟨h1,a,b⟩:=h;subst a;have h0:0<xs.length:=by cases xs with|nil=>exact (b rfl).elim|cons=>simp
  have c:Nat.ble xs.length xs.length=W:=td (a6 _);have d:Nat.blt 0 xs.length=W:=td h0;simp[ad,h1,c,d]
def VF.new (l:Z (V (Z cI))) (h:xs≠[]):VF (l++[O xs]) (O (l.length,xs.length)) xs:=⟨by simp[bz],rfl,h⟩
def yG(p:V (Nat×Nat)):zz:=zz.mk (O 0) p (v7.mk (hW.mk) (vY.mk (hX.mk) 0) (pY.mk (hW.mk) (xD.mk 0 0))) Y (Gx.mk (hX.mk) (mL.mk) 0)
def SC(c:dt)(a:cI)(k:Nat):gD:=gD.mk c a Y k (O k) Y Y [] [] F F
structure wm(pre:List dt)(h:Hp):Prop where
 dU:∃p,h.dU=[yG p]/\VF h.uC p (pre.map (·.name))
 jk:h.jk=[eu 0 pre]
 et:h.et.length=pre.length/\∀k c,pre[k]?=O c->∃sA,h.et[k]?=O (SC c sA k)
 uB:h.uB=List.replicate pre.length []
 j7:(pre.map (·.name)).Nodup
 len:pre.length<=128
 Cb:h.Cb=[]
 CV:h.CV=[]
 all:h.all=[]
 hQ:h.hQ=[]
 YJ:True
section
variable{N:Nat}(hN:1073741824<=N)
include hN
theorem agu(n i:Int)(c:dt)(ls:Z cW)(l:cW)(q:aR ls n=O l)(pre:Z dt)(h:Hp)(s:wm pre h):T (F55 N (n,i,c,O 0,ls) h) λr=>(r.1=Y/\wm (pre++[c]) r.2)∨(iw r.1/\True):=by
 obtain⟨⟨p,t,u⟩,v,⟨f,w⟩,m,x,z,A,B,C,D,E⟩:=s;have G:=u.hs;unfold F55;simp only[aM,t,v,yG,dX,gT,qd,q,eN];refine ao (λ_=>aF (nO hN _ _ _ _ _) λy j=>ag (.inr ⟨j cd,trivial⟩)) λg=>?_;simp only[ic,ne_eq]at g;cases o:wj 0 pre c.name with
 |some k=>simp only[cj,eP,l7,M3,bf];exact aF (nO hN _ _ _ _ _) λy j=>ag (.inr ⟨j cd,trivial⟩)|none=>
  have H:=Cu o;have I:a8 c7 (eu 0 pre) c.name=Y:=by rw[eN,o];rfl
  have J:(pre.map (·.name)++[c.name])≠[]:=aE;simp only[iE,Aa,l6,kb,bq,bw,s9,aM,gT,G,B6 I,dd];refine bY (dG cM cM) (bY aE (ag (.inl ⟨rfl,?_⟩)));have X:pre.length<128:=by have:=z;omega
  refine⟨⟨_,rfl,?_⟩,?_,⟨?_,λk K e=>?_⟩,?_,?_,?_,A,B,C,D,E⟩
  .rw[kZ];exact VF.new _ J
  .show [eu 0 pre++[(c.name,O h.et.length)]]=_;rw[yO,f,cX]
  .simp[f]
  .by_cases L:k<pre.length
   .rw[fx L]at e;obtain⟨P,Q⟩:=w k K e;exact⟨P,by show(h.et++_)[k]?=_;rw[fx M];exact Q⟩
   .have R:k=pre.length:=by have:=(aY.1 e).1;simp at this;omega
    subst R;simp at e;subst e;refine⟨l.name,?_⟩;show(h.et++_)[pre.length]?=_;rw[<-f];simp[SC,m,f]
  .show h.uB++[[]]=_;rw[m];simp[List.replicate_succ']
  .rw[kZ,EY];refine⟨x,aE,λa S b g=>?_⟩;simp at g;subst g;obtain⟨d,U,rfl⟩:=dP.1 S;exact H d U
  .simp;omega
end
def Cx{A σ:Type}{step:A->σ->(σ->V β)->V β}{done:σ->V β}{Q:β->Prop}(l:Z A)(q:l.Nodup)(S:(A->Prop)->σ){d:σ}(h0:d=S λ_=>False)
  (s:∀(P:A->Prop) x,(∀y,P y->y∈l)->x∈l->¬P x->∀k,step x (S P) k=k (S λy=>P y∨y=x)) (h:T (done (S λx=>x∈l)) Q):T (kC step done l.length l d) Q:=by
 obtain⟨r,t,u⟩:=h;refine⟨r,O2 (I:=λleft st=>∃P:A->Prop,st=S P/\(∀x,P x↔x∈l/\x∉left)/\(∀x∈left,x∈l)/\left.Nodup) ?_ ?_ l.length l d rfl ⟨λ_=>False,h0,λx=>⟨λh=>h.elim,λh=>h.2 h.1⟩,λx c=>c,q⟩,u⟩
 .rintro st ⟨P,rfl,a,_,_⟩;have:P=λx=>x∈l:=funext λx=>propext ⟨λh=>((a x).1 h).1,λh=>(a x).2 ⟨h,aE⟩⟩;rw[this];exact t
 .rintro left st i x ⟨P,rfl,a,f,p⟩ c;have g:x∈left:=bF c;refine⟨_,⟨_,rfl,λy=>?_,λy m=>f y (List.mem_of_mem_eraseIdx m),p.sublist (List.eraseIdx_sublist _ _)⟩,s P x (λy m=>((a y).1 m).1) (f x g) (λh=>((a x).1 h).2 g)⟩;have v:∀y,y∈left.eraseIdx i↔y∈left/\y≠x:=λy=>by
   obtain⟨hi,rfl⟩:=aY.1 c;rw[List.mem_eraseIdx_iff_getElem];constructor
   .rintro ⟨j,n,w,rfl⟩;exact⟨gw n,λe=>w ((List.getElem_inj p).1 e)⟩
   .rintro ⟨o,b⟩;obtain⟨j,n,rfl⟩:=gX o;exact⟨j,n,λe=>b (by subst e;rfl),rfl⟩
  rw[v];constructor
  .rintro (h|rfl)
   .exact ⟨((a y).1 h).1,λb=>((a y).1 h).2 b.1⟩
   .exact ⟨f _ g,λb=>b.2 rfl⟩
  .rintro ⟨o,b⟩;by_cases e:y=x
   .exact .inr e
   .exact .inl ((a y).2 ⟨o,λz=>b ⟨z,e⟩⟩)
def Cy(l:Z α)(f a:Nat->α->β)(k:Nat)(x:β)(b:∀e,l[k]?=O e->x=a k e)(c:∀j e,j≠k->l[j]?=O e->f j e=a j e):(l.mapIdx f).set k x=l.mapIdx a:=by
 apply sC;intro j;rw[qp,zM,zM,List.length_mapIdx];by_cases e:k=j
 .subst e;rw[aj rfl];cases h:l[k]? with
  |none=>rw[ai (by simpa using h)];rfl|some y=>rw[aj (aY.1 h).1,cj,<-b y h]
 .rw[ai e];cases h:l[j]? with
  |none=>rfl|some y=>simp only[cj];rw[c j y (λe'=>e e'.symm) h]
def iR:∀(l:Z dt)(i:Nat)(x:cI×V Nat),x∈eu i l↔∃k c,l[k]?=O c/\x=(c.name,O (i+k))
 |[],i,x=>by simp[eu]|d::l,i,x=>by
  simp only[eu,cT,iR l (i+1) x];constructor
  .rintro (rfl|⟨k,c,a,rfl⟩)
   .exact ⟨0,d,rfl,rfl⟩
   .exact ⟨k+1,c,a,by rw[(M:i+(k+1)=i+1+k)]⟩
  .rintro ⟨k,c,a,rfl⟩;cases k with
   |zero=>cases a;exact .inl rfl
   |succ k=>exact .inr ⟨k,c,a,by rw[(M:i+(k+1)=i+1+k)]⟩
def qe:∀(l:Z dt)(i:Nat),(eu i l).Nodup
 |[],i=>by simp[eu]|d::l,i=>by simp only[eu,lV];refine⟨λh=>?_,qe l (i+1)⟩;obtain⟨k,c,_,e⟩:=(iR l (i+1) _).1 h;have:=(th e).2;simp only[ax]at this;omega
def Dw(l:Z dt)(o:V Nat):V Nat:=o.bind λk=>(l[k]?).bind λc=>ix l c.de
def kR(l:Z dt):Nat->V Nat->V Nat
 |0,o=>o|j+1,o=>kR l j (Dw l o)
def sk(l:Z dt):∀(j:Nat)(o:V Nat),kR l (j+1) o=Dw l (kR l j o)
 |0,_=>rfl|j+1,o=>sk l j (Dw l o)
def xL(l:Z dt):∀j:Nat,kR l j Y=Y
 |0=>rfl|j+1=>xL l j
def wo(l:Z dt):∀(i j:Nat)(o:V Nat),kR l (i+j) o=kR l j (kR l i o)
 |0,j,o=>by rw[cX];rfl|i+1,j,o=>by rw[Nat.add_right_comm];exact wo l i j (Dw l o)
def xM(h:Dw l o=O k):k<l.length:=by obtain⟨j,_,h⟩:=hG.1 h;obtain⟨c,_,h⟩:=hG.1 h;exact(Cw h).1
def zk(a:Nat->dt->V Nat)(b:Nat->dt->dt)(c:dt)(d:cI)(k:Nat):gD:=gD.mk (b k c) d (a k c) k (O k) Y Y [] [] F F
structure kN(l:List dt)(up:Nat->dt->Option Nat)(cc:Nat->dt->dt)(h:Hp):Prop where
 dU:∃p,h.dU=[yG p]/\VF h.uC p (l.map (·.name))
 jk:h.jk=[eu 0 l]
 et:h.et.length=l.length/\∀k c,l[k]?=O c->∃sA,h.et[k]?=O (zk up cc c sA k)
 uB:h.uB=List.replicate l.length []
 j7:(l.map (·.name)).Nodup
 len:l.length<=128
 Cb:h.Cb=[]
 CV:h.CV=[]
 hQ:h.hQ=[]
 YJ:True
def wm.GP {h:Hp} (a:wm l h):kN l (λ_ _=>Y) (λ_ c=>c) h:=⟨a.dU,a.jk,a.et,a.uB,a.j7,a.len,a.Cb,a.CV,a.hQ,a.YJ⟩
def kN.kQ {d up':Nat->dt->V Nat} {e cc':Nat->dt->dt} {h:Hp} (a:kN l d e h) (f:Nat->gD->gD) (i:∀k c b,l[k]?=O c->f k (zk d e c b k)=zk up' cc' c b k):
  kN l up' cc' {h with et:=h.et.mapIdx f}:=
 ⟨a.dU,a.jk,⟨by rw[<-a.et.1];simp,λk c g=>by obtain⟨b,j⟩:=a.et.2 k c g;exact⟨b,by show(h.et.mapIdx f)[k]?=_;rw[zM,j,cj,i k c b g]⟩⟩,a.uB,a.j7,a.len,a.Cb,a.CV,a.hQ,a.YJ⟩
section
variable{N:Nat}(hN:1073741824<=N)
include hN
theorem LJ(ls:Z cW)(f:cW->V (Z dt))(g:(Int×Int×dt)->Hp->V ((V gW)×Hp))(h:Hp):Y2 N (ls,f,g) h=Ct N ls f g h:=rfl
theorem agv(ls:Z cW)(b:jx ls)(h:Hp)(a:wm [] h):T (F30 N (O 0,ls) h) λr=>(r.1=Y/\wm (cs ls) r.2)∨(iw r.1/\True):=by unfold F30;dsimp only;rw[LJ hN];exact aF (qc hN (λl=>l.br) (λl=>rfl) b.len (λl c=>(b.all l c).br) wm (λ_=>True) a λn i l x pre post h _ _ d _ _ _ a=>agu hN n i x ls l d pre h a) λy e=>ag e
def O6(l:Z dt)(k:Nat):Prop:=∀j,1<=j->j<=l.length->kR l j (O k)≠O k
def uj(l:Z dt)(c:dt):Prop:=(c.de=[]∨(ix l c.de).isSome)/\∃k,l[k]?=O c/\O6 l k
theorem agw(n i:Int)(l:Z dt)(c:dt)(k:Nat)(d:l[k]?=O c)(h:Hp)(S:kN l (λ_ c=>ix l c.de) (λ_ c=>c) h):T (F56 N (n,i,c,O 0) h) λr=>(r.1=Y/\r.2=h/\uj l c)∨(iw r.1/\True):=by
 obtain⟨⟨p,U,r0⟩,X,⟨s0,H⟩,t0,a0,u0,v0,w0,x0,y0⟩:=S;have b0:(eu 0 l).length=l.length:=qd l 0;have I:ix l c.name=O k:=by have:=nG (i:=0) a0 d;rwa[cX]at this
 obtain⟨A0,K⟩:=H k c d;have c0:∀k',k'<l.length->∃B w,l[k']?=O B/\h.et[k']?=O (zk (λ_ c=>ix l c.de) (λ_ c=>c) B w k'):=λk' L=>by obtain⟨w,d0⟩:=H k' _ (bS L);exact⟨_,w,bS L,d0⟩
 have P:(c.de=[]∨(ix l c.de).isSome)->∀(f:(xW×xW->V (V gW×Hp))->(((V Nat)×Int)×xW->V (V gW×Hp))->((V Nat)×Int)×xW->V (V gW×Hp)),
   (∀J rec g t,f J rec ((g,t),())=bif !g.isNone then bif decide (t<(l.length:Int))then g.bind λi64=>(h.et[i64]?).bind λe0=>bif e0.aw.name==c.name then(yN N (n,2,i,0,43)).bind λf0=>O (f0,h)else g.bind λg0=>(h.et[g0]?).bind λh0=>rec ((h0.up,IntKind.i64.wrap (t+1)),())else J ((),())else J ((),()))->
   T (aS (λ(_:xW×xW)=>O (Y,h)) λJ=>aZ (f J) N ((ix l c.de,0),())) λr=>(r.1=Y/\r.2=h/\uj l c)∨(iw r.1/\True):=by
  intro Q f i0;refine az (λ_=>uj l c) (λJ R=>?_) (λx C=>ag (.inl ⟨rfl,rfl,C⟩));have j0:Dw l (O k)=ix l c.de:=by simp[Dw,d]
  refine aP (λs=>0<=s.1.2/\s.1.2<=l.length/\s.1.1=kR l (s.1.2.toNat+1) (O k)/\∀j,1<=j->j<=s.1.2.toNat->kR l j (O k)≠O k) (λs=>(l.length-s.1.2).toNat) ⟨aE,aE,by simp[kR,j0],λj m z=>by simp at z;omega⟩ dY ?_;rintro rec ⟨⟨x,j⟩,u⟩ ⟨l0,m0,v,A⟩ n0;dsimp only at l0 m0 v A;rw[i0];cases x with
  |none=>
   refine R _ ⟨Q,k,d,λa m z=>?_⟩;by_cases D:a<=j.toNat
   .exact A a m D
   .have:kR l a (O k)=Y:=by rw[(M:a=(j.toNat+1)+(a-(j.toNat+1))),wo,<-v,xL]
    rw[this];simp
  |some x=>
   simp only[l7,M3,bf];refine ao (λb=>?_) (λb=>R _ ⟨Q,k,d,λa m z=>A a m ?_⟩)
   .simp only[aU]at b;have C:x<l.length:=xM (o:=kR l j.toNat (O k)) (by rw[<-sk];exact v.symm);obtain⟨B,w,E,o0⟩:=c0 x C;simp only[aM,o0,zk];refine ao (λ_=>aF (nO hN _ _ _ _ _) λy G=>ag (.inr ⟨G cd,trivial⟩)) λp0=>n0 _ ⟨?_,?_,?_,?_⟩ ?_
    .dsimp only;rw[fG M M];omega
    .dsimp only;rw[fG M M];omega
    .dsimp only;rw[fG M M,(M:(j+1).toNat=j.toNat+1),sk,<-v];simp[Dw,E]
    .dsimp only;rw[fG M M];intro a m z;by_cases D:a<=j.toNat
     .exact A a m D
     .have:a=j.toNat+1:=M;subst this;rw[<-v];intro e;cases e;rw[d]at E;cases E;simp at p0
    .dsimp only;rw[fG M M];omega
   .simp only[cY,iB]at b;omega
 unfold F56;simp only[aM,U,X,yG,dX,gT,eN,b0];refine ao (λb=>?_) (λb=>?_)
 .simp only[il,ic,ne_eq]at b;cases q0:wj 0 l c.de with
  |none=>simp only[iE,Aa,l6,bf];exact aF (nO hN _ _ _ _ _) λy G=>ag (.inr ⟨G cd,trivial⟩)|some q=>simp only[cj,eP,l7,bq];rw[show wj 0 l c.name=O k from I];simp only[cj,eP,aM,K,zk];exact P (.inr (by show(wj 0 l c.de).isSome=W;rw[q0];rfl)) _ λJ rec g t=>rfl
 .simp only[qn,gH]at b;rw[show wj 0 l c.name=O k from I];simp only[cj,eP,aM,K,zk];exact P (.inl b) _ λJ rec g t=>rfl
open Classical in
noncomputable def sX (l:Z dt) (P:cI×V Nat->Prop) (k:Nat) (e:gD):gD:=if∃s,P (s,O k)then gD.mk e.aw e.sA (ix l e.aw.de) e.number e.gO e.dx e.equations e.cells e.eb e.qx e.mf else e
theorem agx(ls:Z cW)(z:jx ls)(h:Hp)(A:wm (cs ls) h):T (F31 N (O 0,ls) h) λr=>(r.1=Y/\kN (cs ls) (λ_ c=>ix (cs ls) c.de) (λ_ c=>c) r.2/\r.2.all=[]/\∀c∈cs ls,uj (cs ls) c)∨(iw r.1/\True):=by
 have J:=A.GP;obtain⟨⟨p,e1,b0⟩,e3,⟨c0,K⟩,e6,e7,d0,e8,e9,e10,ZV,e0⟩:=A;generalize B:cs ls=l at*;unfold F31;simp only[aM,e1,e3,yG,gT];refine Cx (eu 0 l) (qe l 0) (λP=>((),{h with et:=h.et.mapIdx (sX l P)})) ?_ ?_ ?_
 .have:h.et.mapIdx (sX l λ_=>False)=h.et:=by apply sC;intro j;rw[zM];cases h.et[j]?<;>simp[sX]
  rw[this]
 .rintro P ⟨s,o⟩ L Q C k;obtain⟨q,c,D,e⟩:=(iR l 0 _).1 Q;cases e;rw[cX]at C⊢;obtain⟨g,E⟩:=K q c D;have R:¬∃s,P (s,O q):=by rintro⟨s,a⟩;obtain⟨f0,g0,G,e⟩:=(iR l 0 _).1 (L _ a);simp only[cX,bc,ax]at e;obtain⟨rfl,rfl⟩:=e;rw[D]at G;cases G;exact C a
  have hu:sX l P q (SC c g q)=SC c g q:=by unfold sX;rw[ai R]
  simp only[aM,e1,e3,yG,dX,gT,zM,E,cj,hu,eN,bw];congr 3;refine Cy _ _ _ q _ (λe m=>?_) (λj e S m=>?_)
  .rw[E]at m;cases m;have:∃s,(λy=>P y∨y=(c.name,O q)) (s,O q):=⟨c.name,.inr rfl⟩
   unfold sX;rw[aj this];have t:∀o:V Nat,(Option.map O o).getD Y=o:=λo=>by cases o<;>rfl
   simp only[SC,t]
  .have:(∃s,(λy=>P y∨y=(c.name,O q)) (s,O j))↔∃s,P (s,O j):=by
    constructor
    .rintro ⟨s,h|h⟩
     .exact ⟨s,h⟩
     .cases h;exact (S rfl).elim
    .rintro ⟨s,h⟩;exact ⟨s,.inl h⟩
   unfold sX;simp only at this;by_cases a:∃s,P (s,O j)
   .rw[aj a,aj (this.2 a)]
   .rw[ai a,ai (λh=>a (this.1 h))]
 .have H:kN l (λ_ c=>ix l c.de) (λ_ c=>c) {h with et:=h.et.mapIdx (sX l λx=>x∈eu 0 l)}:=J.kQ _ λk c g u=>by
   have:∃s,(s,O k)∈eu 0 l:=⟨c.name,(iR l 0 _).2 ⟨k,c,u,aE⟩⟩
   unfold sX;rw[aj this];rfl
  dsimp only;rw[LJ hN];have I:cs ls=ls.flatMap (·.br):=rfl;refine aF (qc hN (λl=>l.br) (λl=>rfl) z.len (λl U=>(z.all l U).br) (λpre h'=>h'={h with et:=h.et.mapIdx (sX l λx=>x∈eu 0 l)}/\∀c∈pre,uj l c) (λ_=>True) ⟨rfl,aE⟩ λn i h0 x pre post h' _ _ i0 _ _ X ⟨t,a0⟩=>?_) λy v=>?_
  .subst t;have u:l[pre.length]?=O x:=by rw[<-B,I,X];simp
   refine dr (agw hN n i l x pre.length u _ H) λr w=>?_;rcases w with⟨q1,d,f⟩|w
   .refine .inl ⟨q1,d,λc b=>?_⟩;rcases dR.1 b with b|b
    .exact a0 c b
    .simp at b;subst b;exact f
   .exact .inr w
  .refine ag ?_;rcases v with⟨q1,d,f⟩|v
   .rw[<-I,B]at f;refine .inl ⟨q1,?_,?_,f⟩
    .dsimp only;rw[d];exact H
    .dsimp only;rw[d];exact e10
   .exact .inr v
end
def xN:∀(n:Nat)(l:Z Nat),l.Nodup->(∀x∈l,x<n)->l.length<=n
 |0,l,_,h=>by
  cases l with
  |nil=>exact a6 _|cons x l=>exact absurd (h x aE) M
 |n+1,l,b,h=>by
  by_cases c:n∈l
  .have:=xN n (l.erase n) (b.erase n) λx a=>by
    have d:=h x (List.mem_of_mem_erase a);have f:x≠n:=λe=>by subst e;exact b.not_mem_erase a
    omega
   rw[List.length_erase_of_mem c]at this;omega
  .have:=xN n l b λx a=>by have d:=h x a;have f:x≠n:=λe=>c (e▸a);omega
   omega
def VG{j m:Nat}(h:kR l (j+m) o≠Y):kR l j o≠Y:=λe=>h (by rw[wo,e,xL])
def xO(p:∀k,k<l.length->O6 l k)(q:k<l.length):kR l l.length (O k)=Y:=by
 cases r:kR l l.length (O k)with
 |none=>rfl|some m=>
  exfalso;have s:∀j,j<=l.length->∃d,kR l j (O k)=O d/\d<l.length:=λj c=>by
   have g:kR l j (O k)≠Y:=VG (m:=l.length-j) (by rw[(M:j+(l.length-j)=l.length),r];simp);obtain⟨d,h⟩:=Option.ne_none_iff_exists'.1 g;refine⟨d,h,?_⟩;cases j with
   |zero=>cases h;exact q
   |succ j=>rw[sk]at h;exact xM h
  let f:Nat->Nat:=λj=>(kR l j (O k)).getD 0;have i:∀j,j<=l.length->kR l j (O k)=O (f j)/\f j<l.length:=λj c=>by
   obtain⟨d,g,t⟩:=s j c;have:f j=d:=by show(kR l j (O k)).getD 0=d;rw[g];rfl
   rw[this];exact ⟨g,t⟩
  have u:((List.range (l.length+1)).map f).Nodup:=by
   rw[EZ,List.pairwise_map];have:=List.pairwise_lt_range (n:=l.length+1);refine this.imp_of_mem ?_;intro a b v w A e;rw[px]at v w;obtain⟨o,y⟩:=i a M;obtain⟨q1,B⟩:=i b M;have:kR l (b-a) (O (f a))=O (f a):=by rw[<-o,<-wo,(M:a+(b-a)=b),q1,<-e,o]
   exact p (f a) y (b-a) M M this
  have:=xN l.length _ u λx z=>by obtain⟨j,c,rfl⟩:=dP.1 z;rw[px]at c;exact(i j M).2
  simp at this;omega
def gq(l:Z dt):Nat->V Nat->Z Nat
 |0,_=>[]|_+1,Y=>[]
 |n+1,O k=>k::gq l n (Dw l (O k))
def j8(l:Z dt)(n:Nat):gq l n Y=[]:=by cases n<;>rfl
def uk(l:Z dt):∀(n:Nat)(o:V Nat),(gq l n o).length<=n
 |0,_=>a6 _|n+1,Y=>by simp[gq]
 |n+1,O k=>by have:=uk l n (Dw l (O k));simp only[gq,ec];omega
def rP{l:Z dt}:∀{n:Nat}{o:V Nat}(m:Nat),kR l n o=Y->gq l (n+m) o=gq l n o
 |0,o,m,h=>by have:o=Y:=h;subst this;rw[j8,j8]|n+1,Y,m,h=>by rw[j8,j8]|n+1,O k,m,h=>by rw[(M:n+1+m=(n+m)+1)];simp only[gq];rw[rP m (show kR l n (Dw l (O k))=Y from h)]
def xP{l:Z dt}:∀{n:Nat}{o:V Nat},(∀k,o=O k->k<l.length)->∀x∈gq l n o,x<l.length
 |0,_,_,x,a=>by cases a
 |n+1,Y,_,x,a=>by cases a
 |n+1,O k,h,x,a=>by
  rcases cT.1 a with rfl|a
  .exact h _ rfl
  .exact xP (λk' b=>xM b) x a
def qf{ls:Z cW}:∀(n:Nat)(o:V Nat),(∀k,o=O k->k<(cs ls).length)->mh ls n (o.bind λk=>(cs ls)[k]?)=(gq (cs ls) n o).filterMap λk=>(cs ls)[k]?
 |0,_,_=>rfl|n+1,Y,_=>rfl
 |n+1,O k,h=>by have a:=h k rfl;have e:(cs ls)[k]?=O (cs ls)[k]:=bS a;simp only[aM,e,mh,gq,DA];congr 1;rw[<-qf n _ λk' b=>xM b];congr 1;simp only[Dw,aM,e];exact wk
def kO{α β γ:Type}(f:α->V β)(g:β->Z γ):∀l:Z α,(l.filterMap f).flatMap g=l.flatMap λx=>((f x).map g).getD []
 |[]=>rfl|x::l=>by have:=kO f g l;cases h:f x<;>simp[DA,h,this]
section
variable{N:Nat}(hN:1073741824<=N)
include hN
theorem um(l:Z α)(b:α->cI)(m:l.length<=136314880){J:Z cI×xW->V β}{P:β->Prop}{f:(((Z cI×Int)×xW)->V β)->((Z cI×Int)×xW)->V β}
  (e:∀rec out p,f rec ((out,p),())=bif decide (p<(l.length:Int))then(aR l p).bind λz=>(cR (cE 16 (out.length+[b z].length) 140737488355328)).bind λ_=>rec ((out++[b z],IntKind.i64.wrap (p+1)),())else J (out,()))
  (g:T (J (l.map b,())) P):T (aZ f N (([],0),())) P:=by
 refine aP (λs=>0<=s.1.2/\s.1.2<=l.length/\s.1.1=(l.take s.1.2.toNat).map b) (λs=>(l.length-s.1.2).toNat) ⟨aE,aE,aE⟩ dY ?_;rintro rec ⟨⟨out,p⟩,u⟩ ⟨d,h,a⟩ i;dsimp only at d h a;rw[e];have n:out.length<=l.length:=by rw[a];simp;omega
 refine ao (λc=>?_) (λc=>?_)
 .simp only[aU]at c;refine aH d c λx o j=>bY (dG cM cM) (i _ ⟨?_,?_,?_⟩ ?_)<;>dsimp only<;>rw[fG M M]
  .omega
  .omega
  .have k:l.take (p.toNat+1)=l.take p.toNat++[x]:=by obtain⟨hi,rfl⟩:=aY.1 j;exact(ah hi).symm
   rw[(M:(p+1).toNat=p.toNat+1),k,a];simp
  .omega
 .simp only[cY,iB]at c;rw[dh M]at a;subst a;exact g
theorem abJ{l:Z dt}{e:Nat->dt->dt}{h:Hp}(b:kN l (λ_ c=>ix l c.de) e h):∀(m n:Nat)(o:V Nat),(∀k,o=O k->k<l.length)->kR l m o=Y->m<n->m<=1000->T (LG N n o h) λr=>r.2=h/\r.1=(gq l m o).reverse.map O
 |m,0,o,_,_,f,_=>M|m,n+1,Y,_,_,_,_=>ag ⟨rfl,by rw[j8];rfl⟩
 |0,n+1,O k,_,a,_,_=>by cases a
 |m+1,n+1,O k,h1,a,f,q=>by
  obtain⟨s,he⟩:=b.et.2 k _ (bS (h1 k rfl));show T (YF N (LG N n) (O k) h) _;have g:Dw l (O k)=ix l (l[k]'(h1 k rfl)).de:=by simp[Dw,h1 k rfl]
  have i:(kR l m (Dw l (O k)))=Y:=a;unfold YF;simp only[l7,bq,aM,he,zk];rw[<-g];refine aF (abJ b m n (Dw l (O k)) (λk' j=>xM j) i M M) λy ⟨p,d⟩=>?_;have t:y.1.length<=m:=by rw[d];simpa using uk l m _
  refine bY (dG cM cM) (ag ⟨p,?_⟩);rw[d];simp[gq]
set_option maxHeartbeats 4000000 in
theorem agy(ls:Z cW)(Q:jx ls)(n i:Int)(c:dt)(k a:Nat)(m:Z (cI×dt))(K:(cs ls)[k]?=O c)(h:Hp)(c0:kN (cs ls) (λ_ c=>ix (cs ls) c.de) (λ_ c=>c) h)(p0:∀c∈cs ls,uj (cs ls) c)(q0:h.all[a]?=O m):
  T (F57 N (n,i,c,O 0,O a) h) λr=>(r.1=Y/\r.2={h with all:=h.all.set a (eX c7 m c.name (lQ ls c.name c))})∨(iw r.1/\r.2=h):=by
 have r0:=c0;obtain⟨⟨p,e1,P0⟩,e3,⟨Q0,s0⟩,e6,e7,t0,e8,e9,ZV,R0⟩:=c0;have d0:ix (cs ls) c.name=O k:=by have:=nG (i:=0) e7 K;rwa[cX]at this
 have L:k<(cs ls).length:=(aY.1 K).1;have u0:∀k',k'<(cs ls).length->O6 (cs ls) k':=λk' e0=>by
  obtain⟨_,H,v0,w0⟩:=p0 _ (gw e0);have:H=k':=by have x0:=nG (i:=0) e7 v0;have f0:=nG (i:=0) e7 (bS e0);rw[x0]at f0;simpa using f0
  subst this;exact w0
 have g0:=xO u0 L;have h0:iv ls c.name=O c:=by rw[wk,d0];exact K
 obtain⟨y0,b2,A0,S0,T0,U0⟩:=zE ls Q c.name c h0;have B0:ij ls c.name=(gq (cs ls) (cs ls).length (O k)).filterMap λq=>(cs ls)[q]?:=by have:=qf (ls:=ls) 129 (O k) (λk' e=>by cases e;exact L);rw[(M:129=(cs ls).length+(129-(cs ls).length)),rP _ g0,<-(M:129=(cs ls).length+(129-(cs ls).length))]at this;rw[<-this];unfold ij;rw[h0];simp[K]
 generalize P:lQ ls c.name c=A at*;generalize C0:({h with all:=h.all.set a (eX c7 m c.name A)}:Hp)=X0;unfold F57;simp only[aM,e1,e3,yG,dX,gT,eN];rw[show wj 0 (cs ls) c.name=O k from d0];simp only[cj,eP];refine az (λs=>s=(([],[],F,A.bl,A.bj,A.ab),h)) (λJ g=>?_) (λx w=>?_)
 .refine aF (abJ hN r0 (cs ls).length N (O k) (λk' e=>by cases e;exact L) g0 M M) λy ⟨D0,R⟩=>?_;generalize S:(gq (cs ls) (cs ls).length (O k)).reverse=d at*;have c1:d.length<=128:=by rw[<-S,List.length_reverse];exact fk (uk _ _ _) t0
  have i0:∀q∈d,q<(cs ls).length:=λq t=>xP (o:=O k) (λk' e=>by cases e;exact L) q (by rw[<-S]at t;exact List.mem_reverse.1 t);have U:(ij ls c.name).reverse=d.filterMap λq=>(cs ls)[q]?:=by rw[B0,<-S,List.filterMap_reverse]
  have E0:A.bl=d.flatMap λq=>(((cs ls)[q]?).map (·.bl)).getD []:=by rw[<-P];simp only[lQ,wi,U];exact kO _ _ _
  have G0:A.bj=d.flatMap λq=>(((cs ls)[q]?).map (·.bj)).getD []:=by rw[<-P];simp only[lQ,wi,U];exact kO _ _ _
  have H0:A.ab=d.flatMap λq=>(((cs ls)[q]?).map (·.ab)).getD []:=by rw[<-P];simp only[lQ,wi,U];exact kO _ _ _
  have E:∀q∈d,(((cs ls)[q]?).map (·.bl)).getD []=((cs ls)[q]?.getD Zn).bl/\(((cs ls)[q]?).map (·.bj)).getD []=((cs ls)[q]?.getD Zn).bj/\(((cs ls)[q]?).map (·.ab)).getD []=((cs ls)[q]?.getD Zn).ab/\qD ((cs ls)[q]?.getD Zn):=λq t=>by rw[bS (i0 q t)];exact⟨rfl,rfl,rfl,Q.cpt (gw _)⟩
  rw[D0];refine aP (λs=>0<=s.1.1/\s.1.1<=d.length/\s.1.2=([],[],F,(d.take s.1.1.toNat).flatMap (λq=>(((cs ls)[q]?).map (·.bl)).getD []),(d.take s.1.1.toNat).flatMap (λq=>(((cs ls)[q]?).map (·.bj)).getD []),(d.take s.1.1.toNat).flatMap (λq=>(((cs ls)[q]?).map (·.ab)).getD []))) (λs=>(d.length-s.1.1).toNat) ⟨aE,aE,aE⟩ dY ?_;rintro rec ⟨⟨j,d1,a2,a3,a4,a5,f1⟩,u⟩ ⟨I,H,j0⟩ C;dsimp only at I H j0;cases j0;refine ao (λb=>?_) (λb=>?_)
  .simp only[aU,R,dd]at b;obtain⟨x,g1,w,z⟩:=ib (l:=d) I b;have I0:aR y.1 j=O (O x):=by obtain⟨h1,rfl⟩:=lG I;rw[R,nz,dC];simp at z;rw[z];rfl
   have J0:d.take (j.toNat+1)=d.take j.toNat++[x]:=by obtain⟨hi,rfl⟩:=aY.1 z;exact(ah hi).symm
   have X:=i0 x w;obtain⟨i1,hex⟩:=s0 x _ (bS X);have a0:=Q.cpt (gw X);have G:∀q∈d.take j.toNat,q∈d:=λq t=>s7 t;have l1:=jy (l:=d.take j.toNat) (f:=λq=>(((cs ls)[q]?).map (·.bl)).getD []) λq t=>by rw[(E q (G q t)).1];exact (E q (G q t)).2.2.2.bl
   have o1:=jy (l:=d.take j.toNat) (f:=λq=>(((cs ls)[q]?).map (·.bj)).getD []) λq t=>by rw[(E q (G q t)).2.1];exact (E q (G q t)).2.2.2.bj
   have p1:=jy (l:=d.take j.toNat) (f:=λq=>(((cs ls)[q]?).map (·.ab)).getD []) λq t=>by rw[(E q (G q t)).2.2.1];exact (E q (G q t)).2.2.2.ab
   have q1:(d.take j.toNat).length<=128:=cM;have r1:=a0.bl;have s1:=a0.bj;have t1:=a0.ab;simp only[I0,aM,hex,zk];refine bY (dG M M) (bY (dG M M) (bY (dG M M) (C _ ⟨?_,?_,?_⟩ ?_)))<;>dsimp only<;>rw[fG M M]
   .omega
   .omega
   .rw[(M:(j+1).toNat=j.toNat+1),J0];simp[qS,bS X]
   .omega
  .simp only[cY,iB,R,dd]at b;refine g _ ?_;rw[dh M,<-E0,<-G0,<-H0]
 .subst w;dsimp only;refine az (λs=>s.1=A.bl.map (·.name)) (λJ g=>um hN A.bl (·.name) y0 (λ_ _ _=>rfl) (g _ rfl)) (λx w=>?_);refine az (λs=>s.1=A.bj.map (·.role)) (λJ g=>um hN A.bj (·.role) b2 (λ_ _ _=>rfl) (g _ rfl)) (λK0 z=>?_);refine az (λs=>s.1=A.ab.map (·.role)) (λJ g=>um hN A.ab (·.role) A0 (λ_ _ _=>rfl) (g _ rfl)) (λL0 l0=>?_);obtain⟨ps,v1⟩:=x;obtain⟨ks,w1⟩:=K0;obtain⟨rs,x1⟩:=L0;dsimp only at w z l0;subst w z l0;refine az (λ_=>True) (λJ g=>?_) (λx _=>?_)
  .simp only[aM,e1,e3,yG,dX,gT,dd];have y1:(A.bl.map (·.name)).length=A.bl.length:=aE;have A1:(A.bj.map (·.role)).length=A.bj.length:=aE;have B1:(A.ab.map (·.role)).length=A.ab.length:=aE;generalize A.bl.map (·.name)=ps at*;generalize A.bj.map (·.role)=ks at*;generalize A.ab.map (·.role)=rs at*;refine aP (λs=>0<=s.1.2/\s.1.2<=3) (λs=>(3-s.1.2).toNat) ⟨aE,aE⟩ dY ?_;rintro rec ⟨⟨part,kind⟩,u⟩ ⟨I,H⟩ C;dsimp only at I H;refine ao (λb=>?_) (λb=>g _ trivial);simp only[ec,kU,aU]at b;refine az (λ_=>True) (λC1 b0=>?_) (λx _=>C _ ⟨?_,?_⟩ ?_)
   .have N0:kind=0∨kind=1∨kind=2:=M;rcases N0 with rfl|rfl|rfl
    .rw[show aR [ps,ks,rs] 0=O ps from rfl];simp only[aM,bp];apply aO<;>intro b;simp only[aU]at b;refine aP (λst=>0<=st.fst.snd/\st.fst.snd<=↑ps.length) (λst=>(↑ps.length-st.fst.snd).toNat) ?_ ?_ ?_;exact bt;exact bt;rintro rec ⟨⟨_,_⟩,_⟩ D C;dsimp only at D;dsimp only;obtain⟨m0,n0⟩:=D;apply a7<;>intro b;apply ht<;>intro b;refine ap (nO an _ _ _ _ _) λy B v=>ag ?_;dsimp only;rotate_left;refine bY ?_ ?_;exact jJ;refine aH an an λx w z=>ap (VD an _ _ ?_) λy B v=>?_;exact jJ;apply ao<;>intro b;refine ap (nO an _ _ _ _ _) λy B v=>ag ?_;dsimp only;rotate_left;refine az (λ_=>True) (λJ g=>?_) ?_;apply aO<;>intro b;contradiction;apply aO<;>intro b;contradiction;apply g;dsimp only;rintro⟨_,_⟩ o0;apply ao<;>intro b;simp only[aU]at b;refine ap (nO an _ _ _ _ _) λy B v=>ag ?_;dsimp only;rotate_left;simp only[aU]at b;exact C _ bt bt;apply b0;dsimp only;contradiction;all_goals exact .inr ⟨v cd,rfl⟩
    .rw[show aR [ps,ks,rs] 1=O ks from rfl];simp only[aM,bp];apply aO<;>intro b;contradiction;apply aO<;>intro b;simp only[aU]at b;refine aP (λst=>0<=st.fst.snd/\st.fst.snd<=↑ks.length) (λst=>(↑ks.length-st.fst.snd).toNat) ?_ ?_ ?_;exact bt;exact bt;rintro rec ⟨⟨_,_⟩,_⟩ D C;dsimp only at D;dsimp only;obtain⟨m0,n0⟩:=D;apply a7<;>intro b;apply ht<;>intro b;refine ap (nO an _ _ _ _ _) λy B v=>ag ?_;dsimp only;rotate_left;refine bY ?_ ?_;exact jJ;refine aH an an λx w z=>ap (VD an _ _ ?_) λy B v=>?_;exact jJ;apply ao<;>intro b;refine ap (nO an _ _ _ _ _) λy B v=>ag ?_;dsimp only;rotate_left;refine az (λ_=>True) (λJ g=>?_) ?_;apply aO<;>intro b;simp only[aU]at b;refine aH an M λx w z=>?_;apply g;dsimp only;contradiction;rintro⟨_,_⟩ o0;apply ao<;>intro b;simp only[aU]at b;refine ap (nO an _ _ _ _ _) λy B v=>ag ?_;dsimp only;rotate_left;simp only[aU]at b;exact C _ bt bt;apply b0;dsimp only;contradiction;all_goals exact .inr ⟨v cd,rfl⟩
    .rw[show aR [ps,ks,rs] 2=O rs from rfl];simp only[aM,bp];apply aO<;>intro b;contradiction;apply aO<;>intro b;contradiction;apply aO<;>intro b;simp only[aU]at b;refine aP (λst=>0<=st.fst.snd/\st.fst.snd<=↑rs.length) (λst=>(↑rs.length-st.fst.snd).toNat) ?_ ?_ ?_;exact bt;exact bt;rintro rec ⟨⟨_,_⟩,_⟩ D C;dsimp only at D;dsimp only;obtain⟨m0,n0⟩:=D;apply a7<;>intro b;apply ht<;>intro b;refine ap (nO an _ _ _ _ _) λy B v=>ag ?_;dsimp only;rotate_left;refine bY ?_ ?_;exact jJ;refine aH an an λx w z=>ap (VD an _ _ ?_) λy B v=>?_;exact jJ;apply ao<;>intro b;refine ap (nO an _ _ _ _ _) λy B v=>ag ?_;dsimp only;rotate_left;refine az (λ_=>True) (λJ g=>?_) ?_;apply aO<;>intro b;contradiction;apply aO<;>intro b;simp only[aU]at b;refine aH an M λx w z=>?_;apply g;dsimp only;contradiction;rintro⟨_,_⟩ o0;apply ao<;>intro b;simp only[aU]at b;refine ap (nO an _ _ _ _ _) λy B v=>ag ?_;dsimp only;rotate_left;simp only[aU]at b;exact C _ bt bt;apply b0;dsimp only;contradiction;all_goals exact .inr ⟨v cd,rfl⟩
   .dsimp only;rw[fG M M];omega
   .dsimp only;rw[fG M M];omega
   .dsimp only;rw[fG M M];omega
  .simp only[aM,q0];refine ep (ag (.inl ⟨rfl,?_⟩));rw[<-C0,<-P];rfl
end
def whole(ls:Z cW)(c:dt):cI×dt:=(c.name,lQ ls c.name c)
open Classical in
noncomputable def uo (ls:Z cW) (P:cI×dt->Prop) (k:Nat) (e:gD):gD:=if P (whole ls e.aw)then gD.mk (lQ ls e.aw.name e.aw) e.sA e.up e.number e.gO e.dx e.equations e.cells e.eb e.qx e.mf else e
def uq(h:¬P (whole ls e.aw)):uo ls P k e=e:=ai h
def qg(h:P (whole ls e.aw)):uo ls P k e=gD.mk (lQ ls e.aw.name e.aw) e.sA e.up e.number e.gO e.dx e.equations e.cells e.eb e.qx e.mf:=aj h
def GQ(f:α->β){l:Z α}(h:(l.map f).Nodup):l.Nodup:=by rw[EZ,List.pairwise_map]at h;rw[EZ];exact h.imp λ{a b}(c:f a≠f b)(e:a=b)=>c (by rw[e])
section
variable{N:Nat}(hN:1073741824<=N)
include hN
theorem agz(ls:Z cW)(m:jx ls)(h:Hp)(C:kN (cs ls) (λ_ c=>ix (cs ls) c.de) (λ_ c=>c) h)(R:∀c∈cs ls,uj (cs ls) c)(S:h.all=[]):
  T (F32 N (O 0,ls) h) λr=>(r.1=Y/\kN (cs ls) (λ_ c=>ix (cs ls) c.de) (λ_ c=>lQ ls c.name c) r.2)∨(iw r.1/\True):=by
 have p0:=C;obtain⟨⟨p,e1,o⟩,e3,⟨D,s⟩,e6,e7,U,e8,e9,ZV,X⟩:=C;let St:Z dt->Hp:=λpre=>{h with all:=[pre.map (whole ls)]}
 have E:∀pre,kN (cs ls) (λ_ c=>ix (cs ls) c.de) (λ_ c=>c) (St pre):=λpre=>⟨⟨p,e1,o⟩,e3,⟨D,s⟩,e6,e7,U,e8,e9,ZV,X⟩
 unfold F32;dsimp only;refine ep ?_;rw[LJ hN,S];have t:cs ls=ls.flatMap (·.br):=rfl;refine aF (qc hN (λl=>l.br) (λl=>rfl) m.len (λl u=>(m.all l u).br) (λpre h'=>h'=St pre) (λh'=>∃pre post,cs ls=pre++post/\h'=St pre) rfl λn i q0 x pre post h' _ _ r0 _ _ v a0=>?_) λy G=>?_
 .subst a0;have w:(cs ls)[pre.length]?=O x:=by rw[t,v];simp
  refine dr (agy hN ls m n i x pre.length 0 (pre.map (whole ls)) w _ (E pre) R rfl) λr b0=>?_;rcases b0 with⟨q1,a⟩|⟨q1,a⟩
  .refine .inl ⟨q1,?_⟩;rw[a];have c0:a8 c7 (pre.map (whole ls)) x.name=Y:=by rw[Gt];intro e b;obtain⟨c,d,rfl⟩:=dP.1 b;intro o;rw[t,v]at e7;rw[kZ,EY]at e7;exact e7.2.2 c.name (EX d) x.name aE o
   show({h with all:=[eX c7 (pre.map (whole ls)) x.name (lQ ls x.name x)]}:Hp)=_;rw[B6 c0];simp[St,whole]
  .exact .inr ⟨q1,pre,x::post,by rw[t,v],a⟩
 .have z:∃pl post,cs ls=pl++post/\y.2=St pl/\(y.1=Y->pl=cs ls):=by
   rcases G with⟨q1,a⟩|⟨⟨f,q1,_⟩,pl,post,a,d0⟩
   .exact ⟨cs ls,[],aE,a,λ_=>rfl⟩
   .exact ⟨pl,post,a,d0,λe=>by rw[q1]at e;cases e⟩
  obtain⟨pl,post,H,z,e0⟩:=z;have f0:∀c∈pl,c∈cs ls:=λc d=>by rw[H];exact List.mem_append_left _ d
  have g0:(pl.map (·.name)).Nodup:=by rw[H,kZ,EY]at e7;exact e7.1
  rw[z];simp only[aM,kU];show T ((([pl.map (whole ls)])[0]?).bind _) _;simp only[gT,aM];refine Cx (pl.map (whole ls)) ?_ (λP=>((),{St pl with et:=h.et.mapIdx (uo ls P)})) ?_ ?_ ?_
  .have:((pl.map (whole ls)).map Prod.fst).Nodup:=by rw[s5];exact g0
   exact GQ _ this
  .have:h.et.mapIdx (uo ls λ_=>False)=h.et:=by apply sC;intro j;rw[zM];cases h.et[j]?<;>simp[uo]
   rw[this]
  .rintro P x s0 h0 i0 k;obtain⟨c,d,rfl⟩:=dP.1 h0;obtain⟨q,j0,l0⟩:=gX (f0 c d);have I:(cs ls)[q]?=O c:=by rw[bS j0,l0]
   obtain⟨A,J⟩:=s q c I;have K:wj 0 (cs ls) c.name=O q:=by have:=nG (i:=0) e7 I;rwa[cX]at this
   have m0:uo ls P q (zk (λ_ c=>ix (cs ls) c.de) (λ_ c=>c) c A q)=zk (λ_ c=>ix (cs ls) c.de) (λ_ c=>c) c A q:=uq i0;simp only[St,aM,e1,e3,yG,dX,gT,eN,bw,whole,K,cj,eP,zM,J,m0];congr 3;refine Cy _ _ _ q _ (λe b=>?_) (λj e n0 b=>?_)
   .rw[J]at b;cases b;rw[qg (by exact Or.inr rfl)];simp only[zk]
   .have L:j<(cs ls).length:=by rw[<-D];exact (aY.1 b).1
    obtain⟨t0,Q⟩:=s j _ (bS L);rw[b]at Q;cases Q;have o0:whole ls (cs ls)[j]≠(c.name,lQ ls c.name c):=λe=>by have e:((cs ls)[j]).name=c.name:=(th e).1;have B:=nG (i:=0) e7 (bS L);rw[e,K]at B;simp at B;exact n0 B.symm
    by_cases g:P (whole ls (cs ls)[j])
    .rw[qg g,qg (by exact Or.inl g)]
    .rw[uq g,uq];rintro(h|h)
     .exact g h
     .exact o0 h
  .refine ag ?_;rcases G with⟨q1,_⟩|⟨q1,_⟩
   .refine .inl ⟨q1,?_⟩;have:=(E pl).kQ (up':=λ_ c=>ix (cs ls) c.de) (cc':=λ_ c=>lQ ls c.name c) (uo ls λx=>x∈pl.map (whole ls)) λk c A w=>by have u:whole ls c∈pl.map (whole ls):=EX (by rw[e0 q1];exact bF w);rw[qg (by exact u)];rfl
    exact this
   .exact .inr ⟨q1,trivial⟩
end
structure qE{β:Type}(bi:List (Option (List β)))(sl:Nat->Option (Nat×Nat))(n B:Nat):Prop where
 at':∀k,k<n->∃l,ad bi (sl k)=O l/\l.length<=B
 lt:∀k p,k<n->sl k=O p->p.1<bi.length
 inj:∀k k' p p',k<n->k'<n->sl k=O p->sl k'=O p'->p.1=p'.1->k=k'
def lE(a:Z (V (Z β)))(p:V (Nat×Nat)):(ek a p).length=a.length:=by
 cases p with
 |none=>rfl|some p=>simp[ek]
def qE.push {c:Z (V (Z β))} {B:Nat} (h:qE c sl n B) (u:k<n) {l:Z β} (z:ad c (sl k)=O l) (A:l.length<=B) (x:β):
  qE (ek c (sl k)++[O (l++[x])]) (λj=>if j=k then O ((ek c (sl k)).length,(l++[x]).length)else sl j) n (B+1):=by
 refine⟨λj b=>?_,λj p b a=>?_,λj f p s b t a d e=>?_⟩
 .by_cases e:j=k
  .rw[aj e];exact⟨_,LI _ _ aE,cM⟩
  .rw[ai e];obtain⟨l',h1,C⟩:=h.at' j b;refine⟨l',?_,M⟩;cases g:sl j with
   |none=>rw[g]at h1;exact h1|some p=>
    rw[g]at h1;have v:=h.lt j p b g;have:bz (ek c (sl k)++[O (l++[x])]) p.1=bz c p.1:=by
     unfold bz;rw[fx (by rw[lE];exact v)];cases w:sl k with
     |none=>rfl|some q=>have y:q.1≠p.1:=λe'=>e (h.inj k j q p u b w g e').symm;simp only[ek];rw[zO y]
    obtain⟨i,m⟩:=p;simp only[ad]at h1⊢;rw[this];exact h1
 .by_cases e:j=k
  .simp only[aj e]at a;cases a;simp
  .simp only[ai e]at a;have:=h.lt j p b a;simp[lE];omega
 .by_cases r:j=k
  .by_cases o:f=k
   .omega
   .simp only[aj r]at a;simp only[ai o]at d;cases a;have:=h.lt f s t d;rw[lE]at e;simp only at e;omega
  .by_cases o:f=k
   .simp only[ai r]at a;simp only[aj o]at d;cases d;have:=h.lt j p b a;rw[lE]at e;simp only at e;omega
   .simp only[ai r]at a;simp only[ai o]at d;exact h.inj j f p s b t a d e
def qE.none {a:Z (V (Z β))}:qE a (λ_=>Option.none) n 0:=⟨λk _=>⟨[],rfl,a6 _⟩,λk p _ h=>(by cases h),λk k' p b _ _ h=>(by cases h)⟩
def qE.mono {a:Z (V (Z β))} {B:Nat} (h:qE a sl n B) (c:B<=B'):qE a sl n B':=⟨λk b=>by obtain ⟨l,h1,d⟩:=h.at' k b;exact ⟨l,h1,M⟩,h.lt,h.inj⟩
structure Jg(ls:List cW)(k:Nat)(c:dt)(e:gD):Prop where
 aw:e.aw=lQ ls c.name c
 up:e.up=ix (cs ls) c.de
 number:e.number=k
 gO:e.gO=O k
structure fb(ls:List cW)(B:Nat)(h:Hp):Prop where
 dU:∃p,h.dU=[yG p]/\VF h.uC p ((cs ls).map (·.name))
 jk:h.jk=[eu 0 (cs ls)]
 j7:((cs ls).map (·.name)).Nodup
 len:(cs ls).length<=128
 uB:h.uB.length=(cs ls).length
 et:h.et.length=(cs ls).length
 SD:∃slR slE,qE h.Cb slR (cs ls).length B/\qE h.CV slE (cs ls).length B/\∀k c,(cs ls)[k]?=O c->∃e,h.et[k]?=O e/\Jg ls k c e/\e.dx=slR k/\e.equations=slE k
 hQ:h.hQ=[]
 YJ:True
def fb.mono {B:Nat} {h:Hp} (a:fb ls B h) (b:B<=B'):fb ls B' h:=by obtain⟨c,d,h1,e,f⟩:=a.SD;exact⟨a.dU,a.jk,a.j7,a.len,a.uB,a.et,⟨c,d,h1.mono b,e.mono b,f⟩,a.hQ,a.YJ⟩
def kN.QO {h:Hp} (a:kN (cs ls) (λ_ c=>ix (cs ls) c.de) (λ_ c=>lQ ls c.name c) h):fb ls 0 h:=⟨a.dU,a.jk,a.j7,a.len,by rw[a.uB];simp,a.et.1,⟨λ_=>Y,λ_=>Y,.none,.none,λk c b=>by obtain ⟨e,d⟩:=a.et.2 k c b;exact ⟨_,d,⟨rfl,rfl,rfl,rfl⟩,rfl,rfl⟩⟩,a.hQ,a.YJ⟩
def fb.set {B:Nat} {h h':Hp} (a:fb ls B h) (i:k<(cs ls).length) {e':gD} (l:h'.dU=h.dU) (m:h'.uC=h.uC) (n:h'.jk=h.jk) (o:h'.uB.length=h.uB.length) (p:h'.hQ=h.hQ) (D:True=True) (b:h'.et=h.et.set k e')
  {d f slR' slE':Nat->V (Nat×Nat)} (q:∀k c,(cs ls)[k]?=O c->∃e,h.et[k]?=O e/\Jg ls k c e/\e.dx=d k/\e.equations=f k)
  (r:qE h'.Cb slR' (cs ls).length B') (s:qE h'.CV slE' (cs ls).length B') (t:e'.dx=slR' k) (u:e'.equations=slE' k) (v:∀j,j≠k->slR' j=d j) (w:∀j,j≠k->slE' j=f j) (y:∀c,(cs ls)[k]?=O c->Jg ls k c e'):fb ls B' h':=
 ⟨by rw[l,m];exact a.dU,by rw[n];exact a.jk,a.j7,a.len,by rw[o];exact a.uB,by rw[b];simpa using a.et,⟨slR',slE',r,s,λj c g=>by
  by_cases e:j=k
  .subst e;exact⟨e',by rw[b];simp[a.et,i],y c g,t,u⟩
  .obtain ⟨x,h1,z,A,C⟩:=q j c g;exact⟨x,by rw[b,zO (λe'=>e e'.symm)];exact h1,z,by rw[v j e];exact A,by rw[w j e];exact C⟩⟩,by rw[p];exact a.hQ,trivial⟩
section
variable{N:Nat}(hN:1073741824<=N)
include hN
theorem agA(a b c d:Int):T (F64 N (a,b,c,d)) λr=>(a=0->r=Y)/\(a≠0->iw r):=by unfold F64;refine ao (λh=>ag ⟨λ_=>rfl,λh'=>absurd (by simpa using h) h'⟩) λh=>aF (nO hN _ _ _ _ _) λy e=>ag ⟨λh'=>by simp[h']at h,e⟩
theorem abK(x y:qy):T (YG N (x,y)) λ_=>True:=⟨_,rfl,trivial⟩
theorem abL(x:fH)(y:qy):T (YH N (x,y)) λ_=>True:=⟨_,rfl,trivial⟩
theorem agB(ls:Z cW)(w:jx ls)(r:qy)(B:Nat)(Q:B<=268435456)(h:Hp)(i:fb ls B h):T (F65 N (O 0,r) h) λy=>fb ls (B+1) y.2:=by
 have b:=i;obtain⟨⟨p,m,z⟩,n,A,R,S,U,⟨o,X,q,C,s⟩,a0,b0⟩:=i;unfold F65;simp only[aM,m,n,yG,dX,gT,eN];cases D:wj 0 (cs ls) r.aw with
 |none=>exact ag (b.mono M)|some k=>
  obtain⟨f,c,g,c0⟩:=Cw D;obtain⟨e,t,d,E,G⟩:=s k c g;simp only[cj,eP,l7,bq,aM,t];refine ao (λH=>?_) (λH=>?_)
  .obtain ⟨l,u,I⟩:=q.at' k f;simp only[E,u,aM];refine aF (Wx hN l _ M λx _=>abK hN x r) λy J=>ao (λ_=>ag (b.mono M)) λ_=>bY (dG cM cM) (ep (bY aE (ep ?_)));simp only[t,aM];refine ep (ag ?_);refine b.set (k:=k) f m.symm rfl n.symm rfl rfl rfl rfl s (q.push f u I r) (C.mono M) (slR':=λj=>if j=k then O ((ek h.Cb (o k)).length,(l++[r]).length)else o j) aE G (λj K=>ai K) (λ_ _=>rfl) λd0 v=>?_;rw[g]at v;cases v;exact⟨d.aw,d.up,d.number,d.gO⟩
  .have e0:e.aw.ab.length<=136314880:=by rw[d.aw];have L:iv ls c.name=O c:=ui A (bF g);exact(zE ls w c.name c L).2.2.1
   refine aF (Sx hN e.aw.ab _ M λx _=>abL hN x r) λy J=>ao (λ_=>ag (b.mono M)) λ_=>?_;have P:k<h.uB.length:=M;simp only[d.gO,dX,bS P,aM];refine ao (λ_=>ag (b.mono M)) λ_=>ep (ag ?_);have a:=b.mono (B':=B+1) M;exact⟨⟨p,rfl,z⟩,rfl,a.j7,a.len,by simp[a.uB],a.et,a.SD,a.hQ,a.YJ⟩
theorem agC(ls:Z cW)(b:jx ls)(n i:Int)(r:qy)(q:Int)(B:Nat)(c:B<=268435456)(h:Hp)(d:fb ls B h):T (F63 N (n,i,r,O 0,q) h) λy=>(y.1=Y/\fb ls (B+1) y.2)∨(iw y.1/\True):=by
 unfold F63;refine aF (agB hN ls b r B c h d) λy f=>aF (agA hN _ _ _ _) λz a=>ag ?_;by_cases e:y.1=0
 .exact .inl ⟨a.1 e,f⟩
 .exact .inr ⟨a.2 e,trivial⟩
theorem YK(ls:Z cW)(f:cW->V (Z qy))(g:(Int×Int×qy)->Hp->V ((V gW)×Hp))(h:Hp):F61 N (ls,f,g) h=Ct N ls f g h:=rfl
theorem YL(ls:Z cW)(f:cW->V (Z cV))(g:(Int×Int×cV)->Hp->V ((V gW)×Hp))(h:Hp):F67 N (ls,f,g) h=Ct N ls f g h:=rfl
theorem YM(ls:Z cW)(f:cW->V (Z er))(g:(Int×Int×er)->Hp->V ((V gW)×Hp))(h:Hp):F72 N (ls,f,g) h=Ct N ls f g h:=rfl
theorem YN(ls:Z cW)(f:cW->V (Z cC))(g:(Int×Int×cC)->Hp->V ((V gW)×Hp))(h:Hp):F77 N (ls,f,g) h=Ct N ls f g h:=rfl
theorem agD(ls:Z cW)(c:jx ls)(l:cW)(e:l∈ls)(q:Int)(B:Nat)(m:B<=267386880)(h:Hp)(f:fb ls B h):T (F60 N ([l],O 0,q) h) λy=>(y.1=Y/\fb ls (B+1048576) y.2)∨(iw y.1/\True):=by
 have a:=(c.all l e).dx;unfold F60;dsimp only;rw[YK hN];refine aF (qc hN (λl=>l.dx) (λl=>rfl) aE (λl' d=>by simp at d;subst d;exact a) (λpre h=>fb ls (B+pre.length) h) (λ_=>True) f λn i o x pre post h' _ _ p _ _ g j=>?_) λy b=>ag ?_
 .have:(pre++x::post).length<=1048576:=by rw[<-g];simpa using a
  simp only[ey,ec]at this;refine dr (agC hN ls c n i x q (B+pre.length) M h' j) λr a=>?_;simpa[jd]using a
 .rcases b with⟨q1,k⟩|b
  .exact .inl ⟨q1,k.mono cM⟩
  .exact .inr b
theorem abM(l:Z Int)(a:l.length<=1048576):T (YI N l) λr=>r=l:=pn M M
theorem agE(l:Z Cell)(a:l.length<=1048576):T (F75 N l) λr=>r=l:=pn M M
theorem agF(l:Z sU)(a:l.length<=1048576):T (F80 N l) λr=>r=l:=pn M M
theorem WK(l:Z kI)(k:l.length<=1048576)(c:∀s∈l,uf s):T (Sm N l) λ_=>True:=by
 have d:=λs e=>(c s e).args;unfold Sm;refine az (λ_=>True) (λJ f=>?_) (λx _=>ag trivial);refine aP (λs=>0<=s.1.2/\s.1.2<=l.length/\(s.1.1.length:Int)=s.1.2) (λs=>(l.length-s.1.2).toNat) ⟨aE,aE,aE⟩ dY ?_;rintro rec ⟨⟨out,p⟩,u⟩ ⟨b,g,h⟩ i;dsimp only at b g h;refine ao (λa=>?_) (λa=>f _ trivial);simp only[aU]at a;refine aH b a λx j m=>aF (abM hN x.args (d x j)) λy n=>bY (dG cM cM) (i _ ⟨?_,?_,?_⟩ ?_)<;>dsimp only<;>rw[fG M M]
 .omega
 .omega
 .simp;omega
 .omega
theorem agG(q:cV)(a:OZ q):T (F70 N q) λ_=>True:=by obtain⟨d,e,f,g,h⟩:=a;unfold F70;exact ap (WK an _ an an) λy b c=>ap (WK an _ an an) λy b c=>aho
theorem agH(ls:Z cW)(K:jx ls)(n i:Int)(r:cV)(x:OZ r)(q:Int)(B:Nat)(L:B<=268435456)(h:Hp)(d:fb ls B h):T (F69 N (n,i,r,O 0,q) h) λy=>(y.1=Y/\fb ls (B+1) y.2)∨(iw y.1/\True):=by
 have A:=d;obtain⟨⟨p,f,P⟩,g,Q,R,S,U,⟨X,m,C,o,s⟩,a0,b0⟩:=d;unfold F69;simp only[aM,f,g,yG,dX,gT,eN];cases D:wj 0 (cs ls) r.aw with
 |none=>simp only[iE,Aa,l6,bf];exact aF (nO hN _ _ _ _ _) λy E=>ag (.inr ⟨E cd,trivial⟩)|some k=>obtain⟨b,c,t,c0⟩:=Cw D;obtain⟨e,u,a,G,H⟩:=s k c t;obtain⟨l,v,I⟩:=o.at' k b;simp only[cj,eP,l7,bq,aM,u];refine aF (agG hN r x) λz _=>?_;simp only[H,v,aM];refine bY (dG cM cM) (ep (bY aE (ep ?_)));simp only[u,aM];refine ep (ag (.inl ⟨rfl,?_⟩));refine A.set (k:=k) b f.symm rfl g.symm rfl rfl rfl rfl s (C.mono M) (o.push b v I z) (slE':=λj=>if j=k then O ((ek h.CV (m k)).length,(l++[z]).length)else m j) G aE (λ_ _=>rfl) (λj J=>ai J) λd0 w=>?_;rw[t]at w;cases w;exact⟨a.aw,a.up,a.number,a.gO⟩
theorem agI(ls:Z cW)(b:jx ls)(l:cW)(d:l∈ls)(q:Int)(B:Nat)(s:B<=267386880)(h:Hp)(g:fb ls B h):T (F66 N ([l],O 0,q) h) λy=>(y.1=Y/\fb ls (B+1048576) y.2)∨(iw y.1/\True):=by
 have a:=(b.all l d).equations;unfold F66;dsimp only;rw[YL hN];refine aF (qc hN (λl=>l.equations) (λl=>rfl) aE (λl' e=>by simp at e;subst e;exact a) (λpre h=>fb ls (B+pre.length) h) (λ_=>True) g λn i j x pre post h' _ _ t f k m o=>?_) λy c=>ag ?_
 .have:(pre++x::post).length<=1048576:=by rw[<-m];simpa using a
  simp only[ey,ec]at this;simp at f;subst f;refine dr (agH hN ls b n i x ((b.all j d).Sy x k) q (B+pre.length) M h' o) λr a=>?_;simpa[jd]using a
 .rcases c with⟨q1,p⟩|c
  .exact .inl ⟨q1,p.mono cM⟩
  .exact .inr c
theorem agJ(ls:Z cW)(E:jx ls)(n i:Int)(r:er)(o:r.cells.length<=1048576)(q:Int)(B:Nat)(h:Hp)(d:fb ls B h):T (F74 N (n,i,r,O 0,q) h) λy=>(y.1=Y/\fb ls B y.2)∨(iw y.1/\True):=by
 have s:=d;obtain⟨⟨p,f,G⟩,g,H,I,J,K,⟨L,P,t,u,j⟩,Q,R⟩:=d;unfold F74;simp only[aM,f,g,yG,dX,gT,eN];cases v:wj 0 (cs ls) r.aw with
 |none=>simp only[iE,Aa,l6,bf];exact aF (nO hN _ _ _ _ _) λy b=>ag (.inr ⟨b cd,trivial⟩)|some k=>obtain⟨w,c,l,S⟩:=Cw v;obtain⟨e,x,a,A,C⟩:=j k c l;have D:k<h.et.length:=M;simp only[cj,eP,l7,bq,aM,x];refine ao (λ_=>aF (nO hN _ _ _ _ _) λy b=>ag (.inr ⟨b cd,trivial⟩)) λ_=>aF (agE hN r.cells o) λz _=>ep ?_;simp only[Hh D,aM,bw,zU];refine ag (.inl ⟨rfl,?_⟩);refine s.set (k:=k) w f.symm rfl g.symm rfl rfl rfl rfl j t u A C (λ_ _=>rfl) (λ_ _=>rfl) λU m=>?_;rw[l]at m;cases m;exact⟨a.aw,a.up,a.number,a.gO⟩
theorem agK(ls:Z cW)(E:jx ls)(n i:Int)(r:cC)(o:r.eb.length<=1048576)(q:Int)(B:Nat)(h:Hp)(d:fb ls B h):T (F79 N (n,i,r,O 0,q) h) λy=>(y.1=Y/\fb ls B y.2)∨(iw y.1/\True):=by
 have s:=d;obtain⟨⟨p,f,G⟩,g,H,I,J,K,⟨L,P,t,u,j⟩,Q,R⟩:=d;unfold F79;simp only[aM,f,g,yG,dX,gT,eN];cases v:wj 0 (cs ls) r.aw with
 |none=>simp only[iE,Aa,l6,bf];exact aF (nO hN _ _ _ _ _) λy b=>ag (.inr ⟨b cd,trivial⟩)|some k=>obtain⟨w,c,l,S⟩:=Cw v;obtain⟨e,x,a,A,C⟩:=j k c l;have D:k<h.et.length:=M;simp only[cj,eP,l7,bq,aM,x];refine ao (λ_=>aF (nO hN _ _ _ _ _) λy b=>ag (.inr ⟨b cd,trivial⟩)) λ_=>aF (agF hN r.eb o) λz _=>ep ?_;simp only[Hh D,aM,bw,zU];refine ag (.inl ⟨rfl,?_⟩);refine s.set (k:=k) w f.symm rfl g.symm rfl rfl rfl rfl j t u A C (λ_ _=>rfl) (λ_ _=>rfl) λU m=>?_;rw[l]at m;cases m;exact⟨a.aw,a.up,a.number,a.gO⟩
theorem agL(ls:Z cW)(a:jx ls)(l:cW)(b:l∈ls)(q:Int)(B:Nat)(h:Hp)(e:fb ls B h):T (F71 N ([l],O 0,q) h) λy=>(y.1=Y/\fb ls B y.2)∨(iw y.1/\True):=by have f:=(a.all l b).dv;unfold F71;dsimp only;rw[YM hN];refine aF (qc hN (λl=>l.dv) (λl=>rfl) aE (λl' c=>by simp at c;subst c;exact f) (λpre h=>fb ls B h) (λ_=>True) e λn i g x pre post h' _ _ o d j p k=>?_) λy m=>ag m;simp at d;subst d;exact agJ hN ls a n i x ((a.all g b).aga x j) q B h' k
theorem agM(ls:Z cW)(a:jx ls)(l:cW)(b:l∈ls)(q:Int)(B:Nat)(h:Hp)(e:fb ls B h):T (F76 N ([l],O 0,q) h) λy=>(y.1=Y/\fb ls B y.2)∨(iw y.1/\True):=by have f:=(a.all l b).ch;unfold F76;dsimp only;rw[YN hN];refine aF (qc hN (λl=>l.ch) (λl=>rfl) aE (λl' c=>by simp at c;subst c;exact f) (λpre h=>fb ls B h) (λ_=>True) e λn i g x pre post h' _ _ o d j p k=>?_) λy m=>ag m;simp at d;subst d;exact agK hN ls a n i x ((a.all g b).agb x j) q B h' k
theorem agN(ls:Z cW)(c:jx ls)(t:ls.length<=128)(h:Hp)(i:fb ls 0 h):T (F33 N (O 0,ls) h) λy=>(y.1=Y/\fb ls 268435456 y.2)∨(iw y.1/\True):=by
 unfold F33;refine az (λs=>fb ls 268435456 s.2) (λJ j=>?_) (λx k=>ag (.inl ⟨rfl,k⟩));refine aP (λs=>0<=s.1/\s.1<=ls.length/\fb ls (s.1.toNat*2097152) s.2) (λs=>(ls.length-s.1).toNat) ⟨aE,aE,by simpa using i⟩ dY ?_;rintro rec ⟨p,m⟩ ⟨g,n,e⟩ o;dsimp only at g n e;refine ao (λf=>?_) (λf=>j _ (e.mono M));simp only[aU]at f;rw[fG M M];obtain⟨l,u,d,q⟩:=ib g f;have r:(ls.take ((p+1).toNat)).drop p.toNat=[l]:=by obtain⟨hi,rfl⟩:=aY.1 q;rw[(M:(p+1).toNat=p.toNat+1),<-ah hi,List.drop_append_of_le_length (by rw[jE];omega),Py (by rw[jE];omega)];rfl
 rw[r];refine bY cM (aF (agD hN ls c l d p (p.toNat*2097152) M m e) λy a=>?_);rcases a with⟨q1,b⟩|⟨q1,_⟩
 .rw[q1];refine aF (agI hN ls c l d p _ M _ b) λy a=>?_;rcases a with⟨q1,b⟩|⟨q1,_⟩
  .rw[q1];refine aF (agL hN ls c l d p _ _ b) λy a=>?_;rcases a with⟨q1,b⟩|⟨q1,_⟩
   .rw[q1];refine aF (agM hN ls c l d p _ _ b) λy a=>?_;rcases a with⟨q1,b⟩|⟨q1,_⟩
    .rw[q1];refine o _ ⟨?_,?_,?_⟩ ?_<;>dsimp only
     .omega
     .omega
     .exact b.mono M
     .omega
    .rw[q1.some];exact ag (.inr ⟨q1,trivial⟩)
   .rw[q1.some];exact ag (.inr ⟨q1,trivial⟩)
  .rw[q1.some];exact ag (.inr ⟨q1,trivial⟩)
 .rw[q1.some];exact ag (.inr ⟨q1,trivial⟩)
end
def sn(ls:Z cW):Z cI:=kH ((cs ls).map (·.name))
def EI(l:Z cI):(kH l).length=l.length:=by simp[kH]
def sY(r:dB)(b:Nat):tl:=if b<64 then Nat.testBit r.e0.toNat b else Nat.testBit r.e1.toNat (b-64)
def SE(l:Z dt)(c:Z dB):Prop:=c.length=l.length/\∀a r,c[a]?=O r->0<=r.e0/\r.e0<18446744073709551616/\0<=r.e1/\r.e1<18446744073709551616/\∀b,b<l.length->sY r b=decide (b∈gq l l.length (O a))
structure ur(ls:List cW)(h:Hp):Prop where
 dU:∃t,h.dU=[t]/\t.lh=O 0/\VF h.uC t.qw (sn ls)/\((t.ready.done.v=0/\t.ready.m.mu.vZ=0)∨
  (t.ready.done.v≠0/\(0<(cs ls).length->∃i rows,t.bits=O (i,rows.length)/\bz h.hQ i=O rows/\SE (cs ls) rows)))
 jk:h.jk=[eu 0 (cs ls)]
 j7:((cs ls).map (·.name)).Nodup
 len:(cs ls).length<=128
 et:∀k c,(cs ls)[k]?=O c->∃e,h.et[k]?=O e/\Jg ls k c e
 xQ:∀k,k<(cs ls).length->O6 (cs ls) k
 named:∀c∈cs ls,c.name≠[]
section
variable{N:Nat}(hN:1073741824<=N)
include hN
structure Jh(h:Hp):Prop where
 dU:h.dU=[]
 et:h.et=[]
 jk:h.jk=[]
 uB:h.uB=[]
 uC:h.uC=[]
 Cb:h.Cb=[]
 CV:h.CV=[]
 all:h.all=[]
 hQ:h.hQ=[]
theorem agO(ls:Z cW)(l:jx ls)(h:Hp)(z:Jh h):T (F19 N ls h) λr=>(r.1.2.gd≠0/\True)∨(r.1=(O 0,gW.mk 0 0 0 0)/\ur ls r.2):=by
 have fail:∀{r:V gW}{h:Hp},iw r->T (bif !r.isNone then r.bind λy=>O (((Y:V Nat),y),h)else Y) λr=>(r.1.2.gd≠0/\True)∨(r.1=(O 0,gW.mk 0 0 0 0)/\ur ls r.2):=by rintro r h ⟨f,rfl,b⟩;exact ag (.inl ⟨b,trivial⟩)
 obtain⟨h1,d,j,o,q,A,B,C,D⟩:=z;unfold F19;simp only[h1,j,oy,kU];refine ep (ep (aF (agt hN _ ls l) λy g=>?_));rcases g with⟨rfl,E,s⟩|⟨f,rfl,b⟩
 .simp only[l6,kb,bq];have G:wm [] ({h with dU:=[yG Y],jk:=[[]]}:Hp):=
   ⟨⟨Y,rfl,rfl⟩,rfl,⟨by show h.et.length=_;rw[d];rfl,λk c h=>by cases h⟩,o,aE,aE,A,B,C,D,trivial⟩
  refine aF (agv hN ls l _ G) λy g=>?_;rcases g with⟨q1,a⟩|⟨⟨f,q1,b⟩,_⟩
  .rw[q1];simp only[l6,kb,bq];refine aF (agx hN ls l _ a) λy g=>?_;rcases g with⟨q1,a,H,t⟩|⟨⟨f,q1,b⟩,_⟩
   .rw[q1];simp only[l6,kb,bq];refine aF (agz hN ls l _ a t H) λy g=>?_;rcases g with⟨q1,a⟩|⟨⟨f,q1,b⟩,_⟩
    .rw[q1];simp only[l6,kb,bq];refine aF (agN hN ls l E _ a.QO) λy g=>?_;rcases g with⟨q1,a⟩|⟨⟨f,q1,b⟩,_⟩
     .rw[q1];simp only[l6,kb,bq,aM];have u:∀k,k<(cs ls).length->O6 (cs ls) k:=λk m=>by
       obtain⟨_,I,d,j⟩:=t _ (gw m);have:I=k:=by have o:=nG (i:=0) a.j7 d;have q:=nG (i:=0) a.j7 (bS m);rw[o]at q;simpa using q
       subst this;exact j
      obtain⟨p,e1,v⟩:=a.dU;obtain⟨S,U,_,_,J⟩:=a.SD;have w:∀k c,(cs ls)[k]?=O c->∃e,y.2.et[k]?=O e/\Jg ls k c e:=λk c m=>by obtain⟨e,h1,d,_⟩:=J k c m;exact⟨e,h1,d⟩
      show T ((y.2.dU[0]?).bind _) _;rw[e1];simp only[gT,aM,yG];cases p with
      |none=>
       have K:(cs ls).map (·.name)=[]:=v;refine ag (.inr ⟨rfl,⟨_,e1,rfl,?_,.inl ⟨rfl,rfl⟩⟩,a.jk,a.j7,a.len,w,u,s⟩);show sn ls=[]
       unfold sn;rw[K];simp[kH]
      |some p=>
       obtain⟨i,n⟩:=p;obtain⟨h1,d,j⟩:=v;have h0:0<n:=by rw[d];exact Mb.2 j
       have X:n<=128:=by have:=a.len;rw[d];simpa using this
       have L:cR (Nat.beq n ((cs ls).map (·.name)).length&&(Nat.blt 0 n&&Nat.blt n 4611686018427387904))=O ():=fX (by
        have P:Nat.beq n ((cs ls).map (·.name)).length=W:=by rw[d];exact py _
        have a2:Nat.blt 0 n=W:=td h0;have Q:Nat.blt n 4611686018427387904=W:=td M;rw[P,a2,Q];rfl)
       show T ((F34 N (O (i,n)) y.2).bind _) _;simp only[F34,h1,aM,L];refine ag (.inr ⟨rfl,⟨_,e1,rfl,?_,.inl ⟨rfl,rfl⟩⟩,a.jk,a.j7,a.len,w,u,s⟩);have R:i<y.2.uC.length:=by
        unfold bz at h1;cases e:y.2.uC[i]? with
        |none=>rw[e]at h1;cases h1
        |some x=>exact (aY.1 e).1
       refine⟨by simp[bz,R,sn],by rw[d];simp[sn,EI],λe=>j ?_⟩;have:=bH List.length e;simp[sn,EI]at this;simpa using this
     .rw[q1];exact fail ⟨f,rfl,b⟩
    .rw[q1];exact fail ⟨f,rfl,b⟩
   .rw[q1];exact fail ⟨f,rfl,b⟩
  .rw[q1];exact fail ⟨f,rfl,b⟩
 .exact fail ⟨f,rfl,b⟩
end
def wq{x:Int}(h0:0<=x)(a:x<18446744073709551616):IntKind.u64.wrap x=x:=by unfold IntKind.wrap;simp[IntKind.bits,IntKind.signed];omega
def Ji(x:Int)(k:Nat):Int:=IntKind.u64.wrap ((BitVec.ofInt IntKind.u64.bits x|||BitVec.ofInt IntKind.u64.bits (IntKind.u64.wrap (1*2^(min k IntKind.u64.bits)))).toNat)
def Jj(k:Nat):(2:Int)^k=((2^k:Nat):Int):=(Int.natCast_pow 2 k).symm
def so(h:n<18446744073709551616):(BitVec.ofInt IntKind.u64.bits (n:Int)).toNat=n:=by rw[BitVec.toNat_ofInt];show((n:Int)%((2^64:Nat):Int)).toNat=n;omega
def GR{x:Int}(h0:0<=x)(e:x<18446744073709551616)(a:k<64):Ji x k=((x.toNat|||2^k:Nat):Int):=by have b:2^k<2^64:=Nat.pow_lt_pow_right cd a;obtain⟨n,rfl⟩:=lG h0;have c:n<2^64:=M;have f:n|||2^k<2^64:=Nat.or_lt_two_pow c b;have d:min k IntKind.u64.bits=k:=zX (by show k<=64;omega);unfold Ji;rw[d,Jj,Int.one_mul,dV];generalize g:2^k=q at*;rw[wq (x:=(q:Int)) M M,BitVec.toNat_or,so M,so M];exact wq M M
def ND{x:Int}(h0:0<=x)(f:x<18446744073709551616)(g:k<64):
  (IntKind.u64.wrap ((BitVec.ofInt IntKind.u64.bits (x.fdiv (2^(min k IntKind.u64.bits)))&&&BitVec.ofInt IntKind.u64.bits 1).toNat)==1)=Nat.testBit x.toNat k:=by
 have a:min k IntKind.u64.bits=k:=zX (by show k<=64;omega);rw[a];obtain⟨n,rfl⟩:=lG h0;have b:n<18446744073709551616:=M;have c:(n:Int).fdiv (2^k)=((n/2^k:Nat):Int):=by rw[Jj];generalize 2^k=p;rw[Int.fdiv_eq_ediv_of_nonneg _ M];rfl
 rw[c];have d:n/2^k<18446744073709551616:=Nat.lt_of_le_of_lt (Nat.div_le_self _ _) b;rw[dV,Nat.testBit_eq_decide_div_mod_eq];generalize n/2^k=q at*;have e:(BitVec.ofInt IntKind.u64.bits (q:Int)&&&BitVec.ofInt IntKind.u64.bits 1).toNat=q%2:=by rw[BitVec.toNat_and,so d,show(1:Int)=((1:Nat):Int)from rfl,so cd,Nat.and_one_is_mod]
 rw[e,wq M M];by_cases h:q%2=1
 .rw[h];rfl
 .have:q%2=0:=M;rw[this];rfl
def zl(r:dB)(b:Nat):dB:=if b<64 then dB.mk (Ji r.e0 (b%64)) r.e1 else dB.mk r.e0 (Ji r.e1 (b%64))
def EJ(r:dB):Prop:=0<=r.e0/\r.e0<18446744073709551616/\0<=r.e1/\r.e1<18446744073709551616
def WL{x:Int}(h0:0<=x)(b:x<18446744073709551616)(a:k<64):0<=Ji x k/\Ji x k<18446744073709551616:=by rw[GR h0 b a];have c:2^k<2^64:=Nat.pow_lt_pow_right cd a;have d:x.toNat<2^64:=M;have:=Nat.or_lt_two_pow d c;omega
def VH(h:EJ r)(b:Nat):EJ (zl r b):=by
 obtain⟨d,e,f,g⟩:=h;have i:b%64<64:=Nat.mod_lt _ cd;unfold zl;split
 .obtain ⟨a,c⟩:=WL d e i;exact⟨a,c,f,g⟩
 .obtain ⟨a,c⟩:=WL f g i;exact⟨d,e,a,c⟩
def SF(h:EJ r){b c:Nat}(j:b<128)(k:c<128):sY (zl r b) c=(sY r c||decide (c=b)):=by
 obtain⟨d,e,f,g⟩:=h;have a:b%64<64:=Nat.mod_lt _ cd;unfold zl sY;by_cases i:b<64<;>by_cases e2:c<64<;>simp only[i,e2,ca,cG]
 .rw[GR d e a,dV,Nat.testBit_or,JS];congr 1;rw[(M:b%64=b)];exact decide_eq_decide.2 ⟨λh=>h.symm,λh=>h.symm⟩
 .have:c≠b:=M;simp[this]
 .have:c≠b:=M;simp[this]
 .rw[GR f g a,dV,Nat.testBit_or,JS];congr 1;rw[(M:b%64=b-64)];exact decide_eq_decide.2 ⟨λh=>M,λh=>M⟩
def WM{r:dB}(h:EJ r):∀(l:Z Nat),(∀x∈l,x<128)->EJ (l.foldl zl r)/\∀c,c<128->sY (l.foldl zl r) c=(sY r c||decide (c∈l))
 |[],_=>⟨h,λc _=>aE⟩|b::l,a=>by obtain⟨f,g⟩:=WM (VH h b) l λx i=>a x (by simp[i]);refine⟨f,λc d=>?_⟩;rw[sE,g c d,SF h (a b aE) d,Bool.or_assoc];congr 1;by_cases e:c=b<;>simp[e]
end Go.Proofs.Mo
