import Derived.Test.YtedadjfbbpjaiaaGreatZ28
set_option linter.all false
set_option maxRecDepth 20000
namespace Go.Proofs.Mo
open Go Go.Ev Go.X
variable{m:dX}{β:Type}{i p j n:Nat}{id next:Int}{b:Nat->Bool}{ps:List IZ}{A:Int->Option Int}{t:Option Nat}{P:β->Prop}{f:(Int×Unit->Option β)->Int×Unit->Option β}{no:Option β}
def yI(s p:bE):Bool:=decide (p.length<=s.length)&&(s.take p.length==p)
def letterF(c:Int):Bool:=decide (c≥65)&&decide (c<=90)||decide (c≥97)&&decide (c<=122)
def ua(s p:bE):bE:=if yI s p then s.drop p.length else s
def V6(c:Int):Bool:=letterF c||(decide (48<=c)&&decide (c<=57))||decide (c=95)
def gr(s:bE):Bool:=decide (s.length<=32)&&(match s with
 |[]=>false|c::_=>letterF c.toNat)&&s.all λc=>V6 c.toNat
def fT(s:bE):Bool:=gr (ua s [63])
theorem acO(s:bE):ua s [63]=match s with
 |63::r=>r|_=>s:=by
 unfold ua yI;cases s with
 |nil=>rfl|cons c r=>
  by_cases h:c=63
  ·subst h;simp
  ·simp[h]
def j9(m:dX):Prop:=∀(i j:Nat)(hi:i<j)(hj:j<m.nodes.length),(m.nodes[i]'(by omega)).iD<m.nodes[j].iD
def Jk(m:dX)(id:Int):Int:=match m.nodes.findIdx? (·.iD==id)with
 |some i=>i|none=>-1
theorem gQ(hs:j9 m)(hi:i<m.nodes.length):Jk m m.nodes[i].iD=i:=by
 have:m.nodes.findIdx? (·.iD==m.nodes[i].iD)=some i:=by rw[List.findIdx?_eq_some_iff_getElem];refine⟨hi,by simp,λj hj=>?_⟩;have:=hs j i hj hi;simp;omega
 unfold Jk;rw[this]
theorem uc(h:∀n∈m.nodes,n.iD≠id):Jk m id=-1:=by
 have:m.nodes.findIdx? (·.iD==id)=none:=by rw[List.findIdx?_eq_none_iff];intro n hn;simpa using h n hn
 unfold Jk;rw[this]
theorem at_end(hs:j9 m){q:Nat}(hq:q<=m.nodes.length)(h1:∀i(hi:i<m.nodes.length),i<q->m.nodes[i].iD<id)(h2:∀i(hi:i<m.nodes.length),q<=i->¬m.nodes[i].iD<id):
  (if h:q<m.nodes.length then(if m.nodes[q].iD=id then(q:Int)else-1)else-1)=Jk m id:=by
 have none:(∀(h:q<m.nodes.length),m.nodes[q].iD≠id)->Jk m id=-1:=λh=>uc λn hn e=>by
  obtain⟨i,hi,rfl⟩:=fR hn;by_cases hiq:i<q
  ·have:=h1 i hi hiq;omega
  ·have zF:q<m.nodes.length:=by omega
   have h3:=h zF;have h4:=h2 q zF (aP _);by_cases e2:q=i
   ·subst e2;exact h3 e
   ·have:=hs q i (by omega) hi;omega
 split
 ·rename_i zF;split
  ·rename_i he;rw[<-he,gQ hs zF]
  ·rename_i he;exact (none λ_=>he).symm
 ·rename_i zF;exact (none λh=>(zF h).elim).symm
theorem wrap_zero{x:Int}(h1:-18446744073709551616<x)(h2:x<18446744073709551616)(h:IntKind.i64.wrap x=0):x=0:=by simp only[IntKind.wrap,IntKind.bits,IntKind.signed]at h;simp at h;omega
def yJ(n:Int):Prop:=-9223372036854775808<=n/\n<=9223372036854775807
structure Ao(n:Nd):Prop where
 ab:n.ab.length<=1048576
 role:n.role.length<=1048576
 aW:n.aW.length<=1048576
 name:∀p∈n.aW,p.name.length<=1048576
 kids:n.kids.length<=1048576
 kid:∀k∈n.kids,yJ k
 refs:n.refs.length<=1048576
 aaA:∀r∈n.refs,r.role.length<=1048576
 parent:yJ n.parent
structure se(m:dX):Prop where
 len:m.nodes.length<=4096
 node:∀n∈m.nodes,Ao n
def mg(ps:List IZ)(i:Nat):Bool:=if h:i<ps.length then((!fT ps[i].name)||decide ((ps[i].value.length:Int)>4096))||(if h:0<i then !Op.bytesLess ps[i-1].name ps[i].name else false)else false
def pE(next:Int)(rs:List Rf)(i:Nat):Bool:=if h:i<rs.length then(((!fT rs[i].role)||decide (rs[i].target<1))||decide (rs[i].target≥next))||(if h:0<i then !Op.bytesLess rs[i-1].role rs[i].role else false)else false
def kr(ps:List IZ):Bool:=(List.range ps.length).any (mg ps)
def nw(next:Int)(rs:List Rf):Bool:=(List.range rs.length).any (pE next rs)
def jF(m:dX)(n:Nd):Bool:=(fT n.ab&&((decide (n.parent=0)==decide (n.role=[]))&&(decide (n.role=[])||fT n.role)))&&(decide (n.kids.length<=m.nodes.length)&&(!kr n.aW&&!nw m.next n.refs))
def pF(m:dX)(n:Nd):Bool:=fT n.ab&&(decide (n.kids.length<=m.nodes.length)&&(!kr n.aW&&!nw m.next n.refs))
theorem yK(hs:j9 m)(id:Int):(Jk m id=-1/\∀n∈m.nodes,n.iD≠id)∨∃i,∃hi:i<m.nodes.length,Jk m id=(i:Int)/\m.nodes[i].iD=id:=by
 by_cases h:∃n∈m.nodes,n.iD=id
 ·obtain ⟨n,hn,rfl⟩:=h;obtain⟨i,hi,rfl⟩:=fR hn;exact .inr ⟨i,hi,gQ hs hi,rfl⟩
 ·have h':∀n∈m.nodes,n.iD≠id:=λn hn e=>h ⟨n,hn,e⟩;exact .inl ⟨uc h',h'⟩
theorem wP(hs:j9 m)(hi:i<m.nodes.length)(hj:j<m.nodes.length)(h:m.nodes[i].iD=m.nodes[j].iD):i=j:=by
 rcases tQ i j with h1|h1|h1
 ·have:=hs i j h1 hj;omega
 ·exact h1
 ·have:=hs j i h1 hi;omega
theorem nf(hs:j9 m){x y:Nd}(hx:x∈m.nodes)(hy:y∈m.nodes)(h:x.iD=y.iD):x=y:=by obtain⟨i,hi,rfl⟩:=fR hx;obtain⟨j,hj,rfl⟩:=fR hy;have:=wP hs hi hj h;subst this;rfl
def vr(m:dX)(n:Nd)(k:Int):Prop:=∃x∈m.nodes,x.iD=k/\x.parent=n.iD
instance(m:dX)(n:Nd)(k:Int):Decidable (vr m n k):=by unfold vr;infer_instance
def jG(m:dX)(n:Nd):Bool:=decide ((∀k∈n.kids,vr m n k)/\n.kids.Nodup)
def nodeAt(m:dX)(id:Int):Option Nd:=m.nodes.find? (·.iD==id)
theorem lm(hs:j9 m)(hi:i<m.nodes.length):nodeAt m m.nodes[i].iD=some m.nodes[i]:=by unfold nodeAt;rw[List.find?_eq_some_iff_getElem];refine⟨by simp,i,hi,rfl,λj hj=>?_⟩;have:=hs j i hj hi;simp;omega
theorem BF(h:∀n∈m.nodes,n.iD≠id):nodeAt m id=none:=by unfold nodeAt;rw[List.find?_eq_none];intro n hn;simpa using h n hn
theorem gu{x:Nd}(h:nodeAt m id=some x):x∈m.nodes/\x.iD=id:=by unfold nodeAt at h;exact⟨List.mem_of_find?_eq_some h,by have:=List.find?_some h;simpa using this⟩
def ef(m:dX):Nat->Nd->Bool
 |0,_=>false|f+1,n=>if n.parent=0 then decide (n.role=[])else match nodeAt m n.parent with
  |none=>false|some p=>(fT n.role&&decide (n.iD∈p.kids))&&ef m f p
def qa(m:dX):Bool:=!((decide (m.next<1)||decide (m.next>1048577))||decide ((m.nodes.length:Int)>4096))
def vu(m:dX)(i:Nat):Bool:=if h:i<m.nodes.length then(decide (m.nodes[i].iD<1)||decide (m.nodes[i].iD≥m.next))||(if h:0<i then decide (m.nodes[i].iD<=m.nodes[i-1].iD)else false)else false
def Jl(m:dX):Bool:=!(List.range m.nodes.length).any (vu m)
def dU(m:dX):Bool:=qa m&&(Jl m&&m.nodes.all λn=>(pF m n&&jG m n)&&ef m 64 n)
theorem Jm(h:Jl m=true):j9 m/\∀n∈m.nodes,1<=n.iD/\n.iD<m.next:=by
 unfold Jl at h;simp only[hO,Bh,nT]at h;have h':∀i(hi:i<m.nodes.length),1<=m.nodes[i].iD/\m.nodes[i].iD<m.next/\∀h:0<i,m.nodes[i-1].iD<m.nodes[i].iD:=λi hi=>by have:=h i hi;unfold vu at this;simp only[hi,fO,lP,az,not_or]at this;obtain⟨⟨a,b⟩,c⟩:=this;refine⟨by omega,by omega,λh=>?_⟩;simp only[h,fO,az]at c;omega
 have up:∀(d i:Nat)(hj:i+d+1<m.nodes.length),(m.nodes[i]'(by omega)).iD<m.nodes[i+d+1].iD:=by
  intro d;induction d with
  |zero=>intro i hj;exact (h' (i+1) hj).2.2 (by omega)|succ d ih=>
   intro i hj;have h1:=ih i (by omega);have h2:=(h' (i+(d+1)+1) hj).2.2 (by omega);have e:i+(d+1)+1-1=i+d+1:=by omega
   simp only[e]at h2;omega
 refine⟨λi j ZD hj=>?_,λn hn=>?_⟩
 ·obtain ⟨d,rfl⟩:∃d,j=i+d+1:=⟨j-i-1,by omega⟩
  exact up d i hj
 ·obtain ⟨i,hi,rfl⟩:=fR hn;exact⟨(h' i hi).1,(h' i hi).2.1⟩
def wQ(m:dX)(ks:List Int):List Int:=m.nodes.map λn=>((ks.count n.iD:Nat):Int)
theorem LO(ks:List Int)(hj:j<m.nodes.length):(wQ m ks)[j]?=some ((ks.count m.nodes[j].iD:Nat):Int):=by simp[wQ,hj]
theorem V7(hs:j9 m)(ks:List Int)(hj:j<m.nodes.length):(wQ m ks).set j (((ks.count m.nodes[j].iD+1:Nat)):Int)=wQ m (ks++[m.nodes[j].iD]):=by
 apply List.ext_getElem
 ·simp[wQ]
 ·intro i h1 h2;have hi:i<m.nodes.length:=by simpa[wQ]using h1
  rw[List.getElem_set];split
  ·rename_i e;subst e;simp[wQ]
  ·rename_i e;have:m.nodes[j].iD≠m.nodes[i].iD:=λh=>e (wP hs hj hi h);simp[wQ,List.count_cons,this]
def ke(m:dX):Nat->Nd->Bool
 |0,_=>false|f+1,n=>if n.parent=0 then true else match nodeAt m n.parent with
  |none=>false|some p=>ke m f p
structure Hj(m:dX):Prop where
 ok:se m
 sorted:j9 m
 ids:∀n∈m.nodes,1<=n.iD/\n.iD<=1048576
theorem Hk(hi:i<m.nodes.length):(m.nodes.take (i+1)).flatMap Nd.kids=(m.nodes.take i).flatMap Nd.kids++m.nodes[i].kids:=by rw[List.take_succ_eq_append_getElem hi,yC];simp only[EE,LG,GD]
theorem ER{m:dX}{c:Nat}(hm:∀n∈m.nodes,n.kids.length<=c):∀i:Nat,((m.nodes.take i).flatMap Nd.kids).length<=i*c
 |0=>by rw[vG];simp only[LG,kS];omega|i+1=>by
  have h1:=ER hm i;by_cases hi:i<m.nodes.length
  ·have hk:=hm _ (fx hi);rw[Hk hi,kR,Nat.succ_mul];omega
  ·rw[cV (by omega:m.nodes.length<=i)]at h1;rw[cV (by omega:m.nodes.length<=i+1),Nat.succ_mul];omega
theorem R6(hm:se m)(i:Nat):((m.nodes.take i).flatMap Nd.kids).length<=i*1048576:=ER (λn hn=>(hm.node n hn).kids) i
def kQ(m:dX)(n:Nd):Bool:=if n.parent=0 then decide ((m.nodes.flatMap Nd.kids).count n.iD=0)else decide ((m.nodes.flatMap Nd.kids).count n.iD=1)
def wR(m:dX):Prop:=∀n∈m.nodes,∀k∈n.kids,vr m n k
instance(m:dX):Decidable (wR m):=by unfold wR;infer_instance
theorem yL(hs:j9 m)(hk:wR m)(hc:m.nodes.all (kQ m)=true):∀n∈m.nodes,n.parent≠0->∃x,nodeAt m n.parent=some x/\n.iD∈x.kids:=λn hn hp=>by have h1:=cJ.1 hc n hn;unfold kQ at h1;rw[ai hp,az]at h1;have h2:n.iD∈m.nodes.flatMap Nd.kids:=List.count_pos_iff.1 (by omega);obtain⟨x,hx,hxk⟩:=List.mem_flatMap.1 h2;obtain⟨y,hy,Mb,AX⟩:=hk x hx _ hxk;have e:=nf hs hy hn Mb;subst e;obtain⟨i,hi,rfl⟩:=fR hx;exact⟨_,by rw[AX];exact lm hs hi,hxk⟩
def mh(m:dX):Bool:=decide (wR m)&&(m.nodes.all (kQ m)&&m.nodes.all (ke m 64))
theorem sf{k:Int}:∀{l:List Nd},(∀x∈l,k∉x.kids)->(l.flatMap Nd.kids).count k=0
 |[],_=>rfl|x::l,h=>by rw[EE,LP,List.count_eq_zero.2 (h x (by simp)),sf λy hy=>h y (by simp[hy])]
theorem LQ(hs:j9 m):m.nodes.Nodup:=by rw[Jh,NF];intro i j hi hj ZD h;have h1:=hs i j ZD hj;rw[h]at h1;omega
theorem R7(hs:j9 m){p:Nd}(hp:p∈m.nodes){k:Int}(h:∀x∈m.nodes,x≠p->k∉x.kids):(m.nodes.flatMap Nd.kids).count k=p.kids.count k:=by obtain⟨l1,l2,e⟩:=List.append_of_mem hp;have hn:=LQ hs;rw[e]at hn;have E0:=wJ.1 hn;have hc:=oc.1 E0.2.1;rw[e,yC,EE,LP,LP,sf (λx hx=>h x (by rw[e];simp[hx]) (λe2=>E0.2.2 x hx p (by simp) e2)),sf (λx hx=>h x (by rw[e];simp[hx]) (λe2=>hc.1 (e2▸hx)))];omega
theorem count_le{p:Nd}(hp:p∈m.nodes)(k:Int):p.kids.count k<=(m.nodes.flatMap Nd.kids).count k:=by obtain⟨l1,l2,e⟩:=List.append_of_mem hp;rw[e,yC,EE,LP,LP];omega
theorem V8:fT []=false:=rfl
theorem Ap(m:dX)(n:Nd):jF m n=true↔pF m n=true/\((n.parent=0/\n.role=[])∨(n.parent≠0/\n.role≠[]/\fT n.role=true)):=by
 unfold jF pF;by_cases h1:n.parent=0<;>by_cases h2:n.role=[]<;>simp[h1,h2];constructor
 ·rintro ⟨⟨a,b⟩,c⟩;exact ⟨⟨a,c⟩,b⟩
 ·rintro ⟨⟨a,c⟩,b⟩;exact ⟨⟨a,b⟩,c⟩
theorem BG(m:dX):∀(f:Nat)(n:Nd),ef m f n=true->ke m f n=true
 |0,n,h=>by cases h
 |f+1,n,h=>by
  unfold ef at h;unfold ke;split
  ·rfl
  ·rename_i hp;rw[ai hp]at h;split at h
   ·cases h
   ·rename_i p hpn;simp only[aD]at h;exact BG m f p h.2
theorem BH(hm:Hj m):(m.nodes.all (jF m)&&mh m)=m.nodes.all λn=>(pF m n&&jG m n)&&ef m 64 n:=by
 have hs:=hm.sorted;rw[Bj];simp only[aD,cJ];constructor
 ·rintro ⟨ha,hh⟩;unfold mh at hh;simp only[aD,az]at hh;obtain⟨hk,hc,sk⟩:=hh;have R8:=yL hs hk hc;have hb:∀(f:Nat)(n:Nd),n∈m.nodes->ke m f n=true->ef m f n=true:=by
   intro f;induction f with
   |zero=>intro n hn h;cases h
   |succ f ih=>
    intro n hn h;have h1:=((Ap m n).1 (ha n hn)).2;unfold ke at h;unfold ef;split
    ·rename_i hp;rcases h1 with⟨_,h1⟩|⟨h1,_⟩
     ·simp[h1]
     ·exact (h1 hp).elim
    ·rename_i hp;rw[ai hp]at h;obtain⟨x,Zu,RX⟩:=R8 n hn hp;rw[Zu]at h⊢;rcases h1 with⟨h1,_⟩|⟨_,_,h1⟩
     ·exact (hp h1).elim
     ·simp only[h1,RX,decide_true,Lo,nO];exact ih x (gu Zu).1 h
  intro n hn;refine⟨⟨((Ap m n).1 (ha n hn)).1,?_⟩,hb 64 n hn (cJ.1 sk n hn)⟩;unfold jG;rw[az];refine⟨hk n hn,List.nodup_iff_count.2 λk=>?_⟩;by_cases hkm:k∈n.kids
  ·obtain ⟨y,hy,Mb,AX⟩:=hk n hn k hkm;have hcy:=cJ.1 hc y hy;have nP:=hm.ids n hn;unfold kQ at hcy;rw[ai (by omega),az,Mb]at hcy;have:=count_le hn k;omega
  ·rw[List.count_eq_zero.2 hkm];omega
 ·intro h;have hk:wR m:=λn hn=>by have:=(h n hn).1.2;unfold jG at this;exact(eF this).1
  refine⟨λn hn=>(Ap m n).2 ⟨(h n hn).1.1,?_⟩,?_⟩
  ·have hb:=(h n hn).2;unfold ef at hb;by_cases hp:n.parent=0
   ·rw[ap hp,az]at hb;exact .inl ⟨hp,hb⟩
   ·rw[ai hp]at hb;split at hb
    ·cases hb
    ·simp only[aD]at hb;refine .inr ⟨hp,λe=>?_,hb.1.1⟩;rw[e,V8]at hb;exact absurd hb.1.1 (by simp)
  ·unfold mh;simp only[aD,az,cJ];refine⟨hk,λn hn=>?_,λn hn=>BG m 64 n (h n hn).2⟩;unfold kQ;by_cases hp:n.parent=0
   ·rw[ap hp,az];refine sf λx hx pg=>?_;obtain⟨y,hy,Mb,AX⟩:=hk x hx _ pg;have e:=nf hs hy hn Mb;subst e;have:=hm.ids x hx;omega
   ·rw[ai hp,az];have hb:=(h n hn).2;unfold ef at hb;rw[ai hp]at hb;split at hb
    ·cases hb
    ·rename_i p hpn;simp only[aD,az]at hb;obtain⟨FV,hp2⟩:=gu hpn;have tM:p.kids.Nodup:=by have:=(h p FV).1.2;unfold jG at this;exact(eF this).2
     rw[R7 hs FV (λx hx hxp pg=>by obtain⟨y,hy,Mb,AX⟩:=hk x hx _ pg;have e:=nf hs hy hn Mb;subst e;exact hxp (nf hs hx FV (by rw[hp2,AX])))];have h1:=List.nodup_iff_count.1 tM n.iD;have h2:=List.count_pos_iff.2 hb.1.2;omega
def wS(m:dX)(i:Nat):Int:=if h:0<i/\i<=m.nodes.length then(m.nodes[i-1]'(by omega)).iD else 0
def Jn:Nd:=⟨0,[],0,[],[],[],[]⟩
def findF(m:dX)(id:Int):Nd×Bool:=if dU m=true then(match nodeAt m id with
 |some x=>(x,true)|none=>(Jn,false))else(Jn,false)
theorem ud(hm:se m)(h:dU m=true):Hj m:=by unfold dU at h;rw[aD,aD]at h;obtain⟨h1,h2,h3⟩:=h;obtain⟨hs,hr⟩:=Jm h2;unfold qa at h1;simp only[hO,GF,bz]at h1;exact⟨hm,hs,λn hn=>by have:=hr n hn;omega⟩
def Aq(p:Int)(c:Int):Prop:=((65<=c/\c<=90)∨(97<=c/\c<=122))∨(p≠0/\((48<=c/\c<=57)∨c=95))
theorem ng(c:Int):letterF c=true↔(65<=c/\c<=90)∨(97<=c/\c<=122):=by simp[letterF,ge_iff_le]
theorem V9(c:Int):V6 c=true↔((65<=c/\c<=90)∨(97<=c/\c<=122))∨((48<=c/\c<=57)∨c=95):=by
 simp only[V6,lP,ng,aD,az];constructor
 ·rintro ((h|h)|h)
  ·exact .inl h
  ·exact .inr (.inl h)
  ·exact .inr (.inr h)
 ·rintro (h|h|h)
  ·exact .inl (.inl h)
  ·exact .inl (.inr h)
  ·exact .inr h
theorem ES(y:bE):gr y=true↔y.length<=32/\0<y.length/\∀(i:Nat)(c:UInt8),y[i]?=some c->Aq i (c.toNat:Int):=by
 unfold gr;simp only[aD,az];cases y with
 |nil=>simp|cons a y=>
  simp only[dE,ng,cJ,V9];constructor
  ·rintro ⟨⟨h1,h2⟩,h3⟩;refine⟨h1,by omega,λi c hc=>?_⟩;cases i with
   |zero=>cases hc;exact .inl h2
   |succ i=>
    rcases h3 c (bC hc)with h|h
    ·exact .inl h
    ·exact .inr ⟨by omega,h⟩
  ·rintro ⟨h1,_,h3⟩;refine⟨⟨h1,?_⟩,λc hc=>?_⟩
   ·rcases h3 0 a rfl with h|⟨h,_⟩
    ·exact h
    ·simp at h
   ·obtain ⟨i,hi,rfl⟩:=fR hc;rcases h3 i _ (cq hi)with h|⟨_,h⟩
    ·exact .inl h
    ·exact .inr h
section
variable{N:Nat}(hN:1073741824<=N)
include hN
theorem Qh{y:bE}(h32:y.length<=32)(h0:0<y.length)
  (step:∀rec p,0<=p->p<=(y.length:Int)->(p<(y.length:Int)->∀c,y[p.toNat]?=some c->¬Aq p (c.toNat:Int)->gr y=false)->(gr y=true->p=(y.length:Int)->True)->((∀c,y[p.toNat]?=some c->Aq p (c.toNat:Int))->p<(y.length:Int)->T (rec (p+1,())) P)->(p=(y.length:Int)->gr y=true)->T (f rec (p,())) P):T (aE f N (0,())) P:=by
 refine aG (λs=>0<=s.1/\s.1<=y.length/\∀(i:Nat)(c:UInt8),(i:Int)<s.1->y[i]?=some c->Aq i (c.toNat:Int)) (λs=>(y.length-s.1).toNat) ⟨by simp,by simp,λi c h=>by simp at h;omega⟩ (by dsimp only;omega) ?_;rintro rec ⟨p,u⟩ ⟨k1,k2,k3⟩ aH;dsimp only at k1 k2 k3;refine step rec p k1 k2 (λhp c hc hb=>?_) (λ_ _=>trivial) (λhg hp=>aH _ ⟨by dsimp only;omega,by dsimp only;omega,λi c hi hc=>?_⟩ (by dsimp only;omega)) (λhp=>(ES y).2 ⟨h32,h0,λi c hc=>k3 i c ?_ hc⟩)
 ·cases e:gr y with
  |false=>rfl|true=>have:=((ES y).1 e).2.2 p.toNat c hc;rw[show((p.toNat:Nat):Int)=p by omega]at this;exact(hb this).elim
 ·by_cases e:(i:Int)<p
  ·exact k3 i c e hc
  ·dsimp only at hi;have:p.toNat=i:=by omega
   have h2:=hg c (by rw[this];exact hc);rw[show p=(i:Int) by omega]at h2;exact h2
 ·have:=(aV.1 hc).1;omega
theorem Qi(s:bE)(hs:s.length<=1048576):T (N5 N s) λr=>r=fT s:=by
 have body:∀y:bE,y=ua s [63]->y.length<=1048576->∀(J2:bE×Unit->Option Bool),(∀y,y=ua s [63]->T (J2 (y,())) λr=>r=fT s)->T (J2 (y,())) λr=>r=fT s:=λy hy _ J2 h=>h y hy;unfold N5;refine aj (λx=>x.1=ua s [63]) (λJ hJ=>?_) (λx hx=>?_)
 ·rw[acO]at hJ;cases s with
  |nil=>exact hJ _ rfl|cons c r=>
   refine af (λ_=>?_) (λh=>by simp at h);rw[show aA (c::r) 0=some c from rfl];simp only[aU];refine af (λh=>bO (by simp) (hJ _ ?_)) λh=>hJ _ ?_
   ·have:c=63:=by
     have h:(c.toNat:Int)=63:=by simpa using h
     apply UInt8.toNat_inj.1;simpa using(by omega:c.toNat=63)
    subst this;rfl
   ·have:c≠63:=by rintro rfl;simp at h
    dsimp only;split
    ·rename_i e;cases e;exact (this rfl).elim
    ·rfl
 ·obtain ⟨y,u⟩:=x;dsimp only at hx;have hw:fT s=gr y:=by rw[fT,hx]
  rw[hw];refine af (λh=>aa ?_) λh1=>af (λh=>aa ?_) λh2=>?_
  ·have:y=[]:=by simp only[az]at h;exact xc (by omega)
   subst this;rfl
  ·simp only[az]at h;have:¬y.length<=32:=by omega
   simp[gr,this]
  ·simp only[bz,fI]at h1 h2;refine aj (λ_=>gr y=true) (λJ hJ=>?_) (λ_ h=>aa h.symm);refine Qh hN (y:=y) (by omega) (by omega) λrec p k1 k2 jf _ pL kN=>?_;refine af (λhb=>?_) λhb=>hJ _ (kN (by simp only[bz,fI]at hb;omega));simp only[az]at hb;rw[bq (by omega) (by omega)];refine aw k1 hb λc hc kA=>?_;have jf:=jf hb c kA;have pL:=λhg=>pL (λc2 h2=>by rw[kA]at h2;cases h2;exact hg) hb;unfold Aq at jf pL;have ag1:∀(hh:¬(((65<=(c.toNat:Int)/\(c.toNat:Int)<=90)∨(97<=(c.toNat:Int)/\(c.toNat:Int)<=122))∨(p≠0/\((48<=(c.toNat:Int)/\(c.toNat:Int)<=57)∨(c.toNat:Int)=95)))),T (some false) λr=>r=gr y:=λhh=>aa (jf hh).symm;clear jf hJ kN hw hx body;generalize(c.toNat:Int)=z at*;have hm:¬(97<=z/\z<=122/\False):=by simp
   simp only[fG,tq,ba,bc]
   repeat' (first|(refine af (λhq=>?_) (λhq=>?_)<;>simp only[az,bz,hO,mF,fc,ma,ne_eq]at hq))
   all_goals first|(refine pL ?_;omega)|(refine ag1 ?_;omega)
theorem aaB(a:Int):T (VG N a) λr=>r=letterF a:=by unfold VG;refine af (λh1=>af (λh2=>aa ?_) (λh2=>af (λh3=>aa ?_) (λh3=>aa ?_))) (λh1=>af (λh3=>aa ?_) (λh3=>aa ?_));all_goals(simp only[az,bz]at*;rw[Bj,ng];simp;try omega)
theorem ag2(s p:bE):T (Y3 N (s,p)) λr=>r=yI s p:=by
 unfold Y3 yI;refine af (λh=>?_) λh=>aa ?_
 ·simp only[az]at h;have:p.length<=s.length:=by omega
  refine bO (by simp;omega) (aa ?_);simp[this]
 ·simp only[bz]at h;have:¬p.length<=s.length:=by omega
  simp[this]
theorem ag3(s p:bE):T (Y4 N (s,p)) λr=>r=ua s p:=by
 unfold Y4 ua;refine an (ag2 hN s p) λy hy=>?_;subst hy;refine af (λh=>?_) λh=>aa (by rw[h];rfl);have hl:p.length<=s.length:=by simp only[yI,aD,az]at h;exact h.1
 refine bO (by simp;omega) (aa ?_);rw[h];simp
theorem ag4(s p:bE):T (Y5 N (s,p)) λr=>r=ua s p:=by unfold Y5;exact an (ag3 hN s p) λy hy=>aa hy
theorem Qj(s:bE)(hs:s.length<=1048576):T (Et N s) λr=>r=fT s:=by
 unfold Et;refine an (ag4 hN s [63]) λy hy=>?_;have hw:fT s=gr y:=by rw[fT,hy]
 rw[hw];clear hw hy;refine af (λh=>aa ?_) λh1=>af (λh=>aa ?_) λh2=>?_
 ·have:y=[]:=by simpa using h
  subst this;rfl
 ·simp only[az]at h;have:¬y.length<=32:=by omega
  simp[gr,this]
 ·simp only[bz,fI]at h2;have h0:0<y.length:=by
   cases y with
   |nil=>simp at h1|cons=>simp
  refine aw (by omega) (by omega) λc0 _ Fc=>an (aaB hN _) λz hz=>af (λh=>aa ?_) λh3=>?_
  ·cases e:gr y with
   |false=>rfl|true=>
    have:=((ES y).1 e).2.2 0 c0 Fc;rw[hz]at h;simp only[hO,<-Bool.not_eq_true,ng]at h;rcases this with h'|⟨h',_⟩
    ·exact (h h').elim
    ·simp at h'
  ·refine aj (λ_=>gr y=true) (λJ hJ=>bO (wy (dI (by omega:y.length<=32) (by decide))) ?_) (λ_ h=>aa h.symm);refine Qh hN (y:=y) (by omega) (by omega) λrec p k1 k2 jf _ pL kN=>?_;rw[cM];refine af (λhb=>?_) λhb=>hJ _ (kN (by simp only[bz,fI]at hb;omega));simp only[az]at hb;rw[bq (by omega) (by omega)];obtain⟨c,ami,E1,kA⟩:=lj k1 hb;have tu:aA (y.map λc:UInt8=>(c.toNat:Int)) p=some (c.toNat:Int):=by obtain⟨j,rfl⟩:=BC k1;rw[ri,dd];simp at kA;rw[kA];rfl
   rw[tu];simp only[aU];have jf:=jf hb c kA;have pL:=λhg=>pL (λc2 h2=>by rw[kA]at h2;cases h2;exact hg) hb;refine an (aaB hN _) λz2 J4=>?_;subst J4;have Pv:p=0->letterF (c.toNat:Int)=true:=λhp=>by subst hp;have:c0=c:=dc (Fc.symm.trans kA);subst this;rw[<-hz];simpa using h3
   unfold Aq at jf pL;rw[ng]at Pv;have hl:=ng (c.toNat:Int);clear hJ kN tu ami kA E1 Fc hz h3;generalize(c.toNat:Int)=z at*;refine af (λhq=>?_) (λhq=>?_)
   ·have hq:¬((65<=z/\z<=90)∨(97<=z/\z<=122)):=by rw[<-hl];simpa using hq
    have uq:p≠0:=λhp=>hq (Pv hp);refine af (λh5=>af (λh6=>aa (jf ?_).symm) (λh6=>pL ?_)) (λh5=>af (λh7=>af (λh6=>aa (jf ?_).symm) (λh6=>pL ?_)) (λh7=>pL ?_))<;>simp only[az,bz,hO,mF,fc,ma,ne_eq]at*<;>omega
   ·have hq:((65<=z/\z<=90)∨(97<=z/\z<=122)):=by rw[<-hl];simpa using hq
    exact pL (.inl hq)
end
section
variable{N:Nat}(hN:1073741824<=N)
include hN
theorem FI(m:dX)(hs:j9 m)(hl:m.nodes.length<=1048576)(id:Int):T (N4 N (m,id)) λr=>r=Jk m id:=by
 unfold N4;refine aj (λs=>0<=s.1/\s.1<=m.nodes.length/\(∀i(hi:i<m.nodes.length),(i:Int)<s.1->m.nodes[i].iD<id)/\∀i(hi:i<m.nodes.length),s.1<=(i:Int)->¬m.nodes[i].iD<id) (λJ hJ=>?_) (λx hx=>?_)
 ·refine aG (λs=>0<=s.1.1/\s.1.1<=s.1.2/\s.1.2<=m.nodes.length/\(∀i(hi:i<m.nodes.length),(i:Int)<s.1.1->m.nodes[i].iD<id)/\∀i(hi:i<m.nodes.length),s.1.2<=(i:Int)->¬m.nodes[i].iD<id) (λs=>(s.1.2-s.1.1).toNat) ⟨by simp,by simp,by simp,λi hi h=>by simp at h;omega,λi hi h=>by simp at h;omega⟩ (by dsimp only;omega) ?_;rintro rec ⟨⟨lo,hi⟩,u⟩ ⟨k1,k2,k3,k4,k5⟩ aH;dsimp only at k1 k2 k3 k4 k5;refine af (λhb=>?_) (λhb=>hJ _ ⟨k1,by dsimp only;omega,k4,?_⟩)
  ·simp only[az]at hb;have amj:IntKind.i64.wrap ((IntKind.i64.wrap (lo+hi)).tdiv 2)=(lo+hi)/2:=by rw[bq (x:=lo+hi) (by omega) (by omega),Int.tdiv_eq_ediv_of_nonneg (by omega),bq (by omega) (by omega)]
   rw[amj];have qY:lo<=(lo+hi)/2:=by omega
   have B3:(lo+hi)/2<hi:=by omega
   generalize(lo+hi)/2=mid at*;refine bO (by decide) (aw (by omega) (by omega) λx hx bV=>?_);have qD:m.nodes[mid.toNat]'(by omega)=x:=by obtain⟨_,h⟩:=aV.1 bV;exact h
   refine af (λhc=>?_) (λhc=>?_)
   ·simp only[az]at hc;rw[bq (by omega) (by omega)];refine aH _ ⟨?_,?_,?_,?_,k5⟩ ?_<;>dsimp only
    ·omega
    ·omega
    ·omega
    ·intro i BV h;by_cases e:i=mid.toNat
     ·subst e;rw[qD];exact hc
     ·have:=hs i mid.toNat (by omega) (by omega);rw[qD]at this;omega
    ·omega
   ·simp only[bz]at hc;refine aH _ ⟨?_,?_,?_,k4,?_⟩ ?_<;>dsimp only
    ·omega
    ·omega
    ·omega
    ·intro i BV h;by_cases e:i=mid.toNat
     ·subst e;rw[qD];exact hc
     ·have:=hs mid.toNat i (by omega) BV;rw[qD]at this;omega
    ·omega
  ·simp only[bz]at hb;dsimp only;intro i BV h;exact k5 i BV (by omega)
 ·obtain ⟨q,u⟩:=x;obtain⟨h1,h2,h3,h4⟩:=hx;dsimp only at h1 h2 h3 h4;obtain⟨q,rfl⟩:=BC h1;have kN:=at_end hs (id:=id) (q:=q) (by omega) (λi hi h=>h3 i hi (by omega)) (λi hi h=>h4 i hi (by omega));refine af (λhb=>?_) (λhb=>aa ?_)
  ·simp only[az]at hb;have hq:q<m.nodes.length:=by omega
   refine aw h1 hb λx hx bV=>?_;obtain rfl:m.nodes[q]=x:=by obtain ⟨_,h⟩:=aV.1 bV;simpa using h
   rw[fO hq]at kN;refine af (λe=>aa ?_) λe=>aa ?_
   ·rw[ap (by simpa using e)]at kN;exact kN
   ·rw[ai (by simpa using e)]at kN;exact kN
  ·rw[dif_neg (by simp only[bz]at hb;omega)]at kN;exact kN
theorem acP{lo hi:Int}(h0:0<=lo)(h1:lo<=hi)(h2:hi<=1048576):IntKind.i64.wrap ((IntKind.u64.wrap (IntKind.i64.wrap (lo+hi))).fdiv (2^(min 1 IntKind.u64.bits)))=(lo+hi)/2:=by have e:(2:Int)^(min 1 IntKind.u64.bits)=2:=rfl;rw[e,bq (x:=lo+hi) (by omega) (by omega),yG (by omega) (by omega),Int.fdiv_eq_ediv_of_nonneg _ (by omega),bq (by omega) (by omega)]
theorem Zl(m:dX)(hs:j9 m)(hr:∀n∈m.nodes,1<=n.iD/\n.iD<=1048576)(hl:m.nodes.length<=1048576)(id:Int)(nP:yJ id):T (L9 N (m,id)) λr=>r=Jk m id:=by
 have anr:=nP.1;have XZ:=nP.2;have main:T (Y6 N (m.nodes,id,λ(a2,a3)=>Y7 N (a2,a3))) λr=>(bif !r.2 then(-1:Int)else r.1)=Jk m id:=by
  unfold Y6 Y7;refine aj (λs=>0<=s.1/\s.1<=m.nodes.length/\(-1073741824<=id/\id<=1073741824->(∀i(hi:i<m.nodes.length),(i:Int)<s.1->m.nodes[i].iD<id)/\∀i(hi:i<m.nodes.length),s.1<=(i:Int)->¬m.nodes[i].iD<id)) (λJ hJ=>?_) (λx hx=>?_)
  ·refine aG (λs=>0<=s.1.1/\s.1.1<=s.1.2/\s.1.2<=m.nodes.length/\(-1073741824<=id/\id<=1073741824->(∀i(hi:i<m.nodes.length),(i:Int)<s.1.1->m.nodes[i].iD<id)/\∀i(hi:i<m.nodes.length),s.1.2<=(i:Int)->¬m.nodes[i].iD<id)) (λs=>(s.1.2-s.1.1).toNat) ⟨by simp,by simp,by simp,λ_=>⟨λi hi h=>by simp at h;omega,λi hi h=>by simp at h;omega⟩⟩ (by dsimp only;omega) ?_;rintro rec ⟨⟨lo,hi⟩,u⟩ ⟨k1,k2,k3,k4⟩ aH;dsimp only at k1 k2 k3 k4;refine af (λhb=>?_) (λhb=>hJ _ ⟨k1,by dsimp only;omega,λh=>⟨(k4 h).1,?_⟩⟩)
   ·simp only[az]at hb;rw[acP hN k1 k2 (by omega)];have qY:lo<=(lo+hi)/2:=by omega
    have B3:(lo+hi)/2<hi:=by omega
    generalize(lo+hi)/2=mid at*;refine bO (by decide) (aw (by omega) (by omega) λx hx bV=>?_);have Ca:=hr x hx;have qD:m.nodes[mid.toNat]'(by omega)=x:=by obtain⟨_,h⟩:=aV.1 bV;exact h
    simp only[aU];refine af (λhc=>?_) (λhc=>?_)
    ·simp only[az]at hc;rw[bq (x:=mid+1) (by omega) (by omega)];refine aH _ ⟨?_,?_,?_,λh=>⟨?_,(k4 h).2⟩⟩ ?_<;>dsimp only
     ·omega
     ·omega
     ·omega
     ·rw[bq (by omega) (by omega)]at hc;intro i BV eK;by_cases e:i=mid.toNat
      ·subst e;rw[qD];omega
      ·have:=hs i mid.toNat (by omega) (by omega);rw[qD]at this;omega
     ·omega
    ·simp only[bz]at hc;refine aH _ ⟨?_,?_,?_,λh=>⟨(k4 h).1,?_⟩⟩ ?_<;>dsimp only
     ·omega
     ·omega
     ·omega
     ·rw[bq (by omega) (by omega)]at hc;intro i BV eK;by_cases e:i=mid.toNat
      ·subst e;rw[qD];omega
      ·have:=hs mid.toNat i (by omega) BV;rw[qD]at this;omega
     ·omega
   ·simp only[bz]at hb;dsimp only;intro i BV h';exact(k4 h).2 i BV (by omega)
  ·obtain ⟨q,u⟩:=x;obtain⟨h1,h2,h3⟩:=hx;dsimp only at h1 h2 h3;obtain⟨q,rfl⟩:=BC h1;by_cases acQ:-1073741824<=id/\id<=1073741824
   ·obtain ⟨h4,h5⟩:=h3 acQ;have kN:=at_end hs (id:=id) (q:=q) (by omega) (λi hi h=>h4 i hi (by omega)) (λi hi h=>h5 i hi (by omega));refine af (λhb=>?_) (λhb=>aa ?_)
    ·simp only[az]at hb;have hq:q<m.nodes.length:=by omega
     refine aw h1 hb λx hx bV=>?_;have Ca:=hr x hx;obtain rfl:m.nodes[q]=x:=by obtain ⟨_,h⟩:=aV.1 bV;simpa using h
     rw[fO hq]at kN;simp only[aU];refine aa ?_;rw[bq (by omega) (by omega)];by_cases e:m.nodes[q].iD=id
     ·rw[ap e]at kN;rw[show(m.nodes[q].iD-id==0)=true by simp;omega];exact kN
     ·rw[ai e]at kN;rw[show(m.nodes[q].iD-id==0)=false by simp;omega];exact kN
    ·rw[dif_neg (by simp only[bz]at hb;omega)]at kN;exact kN
   ·have pW:Jk m id=-1:=uc λn hn e=>by have:=hr n hn;omega
    refine af (λhb=>?_) (λhb=>aa pW.symm);simp only[az]at hb;refine aw h1 hb λx hx bV=>?_;have Ca:=hr x hx;simp only[aU];refine aa ?_;have:(IntKind.i64.wrap (x.iD-id)==0)=false:=by rw[ma];intro e;have:=wrap_zero (by omega) (by omega) e;omega
    rw[this];exact pW.symm
 unfold L9;refine an main λy hy=>af (λh=>aa ?_) λh=>aa ?_
 ·rw[h]at hy;exact hy
 ·rw[h]at hy;exact hy
end
theorem ue:(List.range n).any b=true↔∃i,i<n/\b i=true:=by simp[List.any_eq_true]
theorem jH:(List.range n).any b=false↔∀i,i<n->b i=false:=by simp[Bh]
theorem oT{x:IZ}(hx:ps[p]?=some x)(h:fT x.name=false∨4096<(x.value.length:Int)):mg ps p=true:=by
 obtain⟨hi,rfl⟩:=aV.1 hx;unfold mg;rw[fO hi];rcases h with h|h
 ·simp[h]
 ·simp[h]
theorem yM{x y:IZ}(hx:ps[p]?=some x)(h0:0<p)(hy:ps[p-1]?=some y):mg ps p=((!fT x.name||decide ((x.value.length:Int)>4096))||!Op.bytesLess y.name x.name):=by obtain⟨hi,rfl⟩:=aV.1 hx;obtain⟨BV,rfl⟩:=aV.1 hy;unfold mg;rw[fO hi,fO h0]
theorem yN{x:IZ}(hx:ps[0]?=some x):mg ps 0=(!fT x.name||decide ((x.value.length:Int)>4096)):=by obtain⟨hi,rfl⟩:=aV.1 hx;unfold mg;rw[fO hi];simp
theorem ln{ps:List Rf}{x:Rf}(hx:ps[p]?=some x)(h:fT x.role=false∨x.target<1∨next<=x.target):pE next ps p=true:=by
 obtain⟨hi,rfl⟩:=aV.1 hx;unfold pE;rw[fO hi];rcases h with h|h|h
 ·simp[h]
 ·simp[h]
 ·simp[h]
theorem BI{ps:List Rf}{x y:Rf}(hx:ps[p]?=some x)(h0:0<p)(hy:ps[p-1]?=some y):pE next ps p=(((!fT x.role||decide (x.target<1))||decide (x.target≥next))||!Op.bytesLess y.role x.role):=by obtain⟨hi,rfl⟩:=aV.1 hx;obtain⟨BV,rfl⟩:=aV.1 hy;unfold pE;rw[fO hi,fO h0]
theorem BJ{ps:List Rf}{x:Rf}(hx:ps[0]?=some x):pE next ps 0=((!fT x.role||decide (x.target<1))||decide (x.target≥next)):=by obtain⟨hi,rfl⟩:=aV.1 hx;unfold pE;rw[fO hi];simp
section
variable{N:Nat}(hN:1073741824<=N)
include hN
theorem jc(hn:n<=1048576)
  (step:∀rec(i:Nat),(b i=false->i<n->T (rec ((i+1:Nat),())) P)->(i=n->(∀j,j<n->b j=false)->T (f rec ((i:Int),())) P)/\(i<n->T (f rec ((i:Int),())) P)):T (aE f N (0,())) P:=by
 refine aG (λs=>∃i:Nat,s.1=i/\i<=n/\∀j,j<i->b j=false) (λs=>n-s.1.toNat) ⟨0,rfl,by omega,λj hj=>by omega⟩ (by dsimp only;omega) ?_;rintro rec ⟨p,u⟩ ⟨i,rfl,h2,h3⟩ aH;obtain⟨g1,g2⟩:=step rec i λhb hi=>aH _ ⟨i+1,rfl,by omega,λj hj=>by
  by_cases e:j=i
  ·subst e;exact hb
  ·exact h3 j (by omega)⟩ (by dsimp only;omega)
 by_cases e:i=n
 ·subst e;exact g1 rfl h3
 ·exact g2 (by omega)
theorem ag5(l:List Int)(x:Int)(hl:l.length<=1048576):T (Y0 N (l,x)) λr=>r=decide (x∈l):=by
 unfold Y0;have:T (YZ N (l,x)) λr=>decide (0<=r)=decide (x∈l):=by
  unfold YZ;refine aj (λ_=>x∉l) (λJ hJ=>?_) (λ_ h=>aa (by simp[h]));refine jc hN hl (b:=λi=>l[i]?==some x) λrec i pL=>⟨λhi cY=>?_,λhi=>?_⟩
  ·subst hi;refine af (λh=>by simp at h) λ_=>hJ _ λhm=>?_;obtain⟨j,hj,rfl⟩:=fR hm;have:=cY j hj;simp[hj]at this
  ·refine af (λ_=>?_) λh=>by simp at h;omega
   refine aw (by omega) (by omega) λy hy cI=>af (λe=>aa ?_) λe=>?_
   ·have e:y=x:=by simpa using e
    subst e;simp[hy]
   ·rw[oB (by omega)];refine pL ?_ hi;simp at cI;rw[cI];simpa using e
 exact an this λy hy=>aa hy
theorem amk(m:dX)(hm:se m)(hs:j9 m)(n:Nd)(hn:Ao n):T (F44 N (m,n)) λr=>r=(pF m n&&jG m n):=by
 have g1:=hn.aW;have g2:=hn.refs;have g3:=hn.kids;have g4:=hm.len;unfold F44;refine an (Qi hN n.ab hn.ab) λy hy=>?_;subst hy;refine af (λh=>aa ?_) λh1=>af (λh=>aa ?_) λh2=>?_
 ·simp only[hO]at h;simp[pF,h]
 ·simp only[az]at h;have:¬n.kids.length<=m.nodes.length:=by omega
  simp[pF,this]
 ·simp only[mF,bz,fI]at h1 h2;have FT:n.kids.length<=m.nodes.length:=by omega
  have XM:kr n.aW=true->(pF m n&&jG m n)=false:=λh=>by simp[pF,h]
  have hrb:nw m.next n.refs=true->(pF m n&&jG m n)=false:=λh=>by simp[pF,h]
  refine aj (λ_=>kr n.aW=false) (λJ hJ=>?_) (λ_ hp=>aj (λ_=>nw m.next n.refs=false) (λJ hJ=>?_) (λ_ hr=>bO ?_ ?_))
  ·refine jc hN g1 (b:=mg n.aW) λrec i pL=>⟨λhi cY=>?_,λhi=>?_⟩
   ·subst hi;exact af (λh=>by simp at h) λ_=>hJ _ (jH.2 cY)
   ·have jf:mg n.aW i=true->T (some false) λr=>r=(pF m n&&jG m n):=λh=>aa (XM (ue.2 ⟨i,hi,h⟩)).symm;refine af (λ_=>?_) λh=>by simp at h;omega
    refine aw (by omega) (by omega) λx hx bV=>an (Qi hN x.name (hn.name x hx)) λw hw=>?_;simp at bV;subst hw;refine af (λh=>jf (oT bV (.inl (by simpa using h)))) λh3=>aw (by omega) (by omega) λx2 _ RX=>?_;simp at RX;obtain rfl:x=x2:=dc (bV.symm.trans RX);refine af (λh=>jf (oT bV (.inr (by simpa using h)))) λh4=>?_;simp only[mF,bz,fI]at h3 h4;have h4':¬(x.value.length:Int)>4096:=by omega
    rw[oB (by omega)];refine af (λh5=>?_) (λh5=>pL ?_ hi)
    ·simp only[az]at h5;rw[bq (by omega) (by omega)];refine aw (by omega) (by omega) λy _ hy=>aw (by omega) (by omega) λx3 _ hx3=>?_;simp at hx3;obtain rfl:x=x3:=dc (bV.symm.trans hx3);have mG:=yM bV (by omega) (by rw[show i-1=((i:Int)-1).toNat by omega];exact hy);simp only[h3,h4',decide_false,fG,LM,yH]at mG;refine af (λh6=>jf (mG.trans h6)) λh6=>pL (mG.trans h6) hi
    ·have:i=0:=by simp only[bz]at h5;omega
     subst this;rw[yN bV];simp[h3,h4']
  ·refine jc hN g2 (b:=pE m.next n.refs) λrec i pL=>⟨λhi cY=>?_,λhi=>?_⟩
   ·subst hi;exact af (λh=>by simp at h) λ_=>hJ _ (jH.2 cY)
   ·have jf:pE m.next n.refs i=true->T (some false) λr=>r=(pF m n&&jG m n):=λh=>aa (hrb (ue.2 ⟨i,hi,h⟩)).symm;refine af (λ_=>?_) λh=>by simp at h;omega
    refine aw (by omega) (by omega) λx hx bV=>an (Qi hN x.role (hn.aaA x hx)) λw hw=>?_;simp at bV;subst hw;refine af (λh=>jf (ln bV (.inl (by simpa using h)))) λh3=>aw (by omega) (by omega) λx2 _ RX=>?_;simp at RX;obtain rfl:x=x2:=dc (bV.symm.trans RX);refine af (λh=>jf (ln bV (.inr (.inl (by simpa using h))))) λh4=>aw (by omega) (by omega) λx2 _ RX=>?_;simp at RX;obtain rfl:x=x2:=dc (bV.symm.trans RX);refine af (λh=>jf (ln bV (.inr (.inr (by simpa using h))))) λh5=>?_;simp only[mF,bz]at h3 h4 h5;have h5':¬x.target≥m.next:=by omega
    rw[oB (by omega)];refine af (λh6=>?_) (λh6=>pL ?_ hi)
    ·simp only[az]at h6;rw[bq (by omega) (by omega)];refine aw (by omega) (by omega) λy _ hy=>aw (by omega) (by omega) λx3 _ hx3=>?_;simp at hx3;obtain rfl:x=x3:=dc (bV.symm.trans hx3);have mG:=BI (next:=m.next) bV (by omega) (by rw[show i-1=((i:Int)-1).toNat by omega];exact hy);simp only[h3,h4,h5',decide_false,fG,LM,yH]at mG;refine af (λh6=>jf (mG.trans h6)) λh6=>pL (mG.trans h6) hi
    ·have:i=0:=by simp only[bz]at h6;omega
     subst this;rw[BJ bV];simp[h3,h4,h5']
  ·simp[bi (b:=1) (n:=m.nodes.length) (m:=281474976710656) (by omega) (by omega)]
  ·have qH:pF m n=true:=by simp[pF,h1,FT,hp,hr]
   rw[qH,nO];refine aj (λ_=>jG m n=true) (λJ hJ=>?_) (λ_ h=>aa h.symm);refine aG (λs=>0<=s.1.1/\s.1.1<=n.kids.length/\s.1.2.length=m.nodes.length/\(∀j(hj:j<m.nodes.length),s.1.2[j]?=some (decide (m.nodes[j].iD∈n.kids.take s.1.1.toNat)))/\(∀k∈n.kids.take s.1.1.toNat,vr m n k)/\(n.kids.take s.1.1.toNat).Nodup) (λs=>(n.kids.length-s.1.1).toNat) ⟨by simp,by simp,by simp,λj hj=>by simp[hj],by simp,by simp⟩ (by dsimp only;omega) ?_;rintro rec ⟨⟨p,met⟩,u⟩ ⟨k1,k2,k3,k4,k5,k6⟩ aH;dsimp only at k1 k2 k3 k4 k5 k6;refine af (λhb=>?_) (λhb=>hJ _ ?_)
   ·simp only[az]at hb;refine aw k1 hb λk hk fM=>an (FI hN m hs (by omega) k) λy hy=>?_;subst hy;have ht:n.kids.take (p.toNat+1)=n.kids.take p.toNat++[k]:=by obtain⟨hi,rfl⟩:=aV.1 fM;exact(kO hi).symm
    have bad:¬((∀k∈n.kids,vr m n k)/\n.kids.Nodup)->T (some false) λr=>r=jG m n:=λh=>aa (by unfold jG;simp[h]);rcases yK hs k with⟨e,pW⟩|⟨i,hi,e,nP⟩
    ·rw[e];refine bad λh=>?_;obtain⟨x,hx,h1,_⟩:=h.1 k hk;exact pW x hx h1
    ·rw[e];refine af (λh=>by simp at h;omega) λ_=>?_;have e0:aA m.nodes (i:Int)=some m.nodes[i]:=ec hi;have e1:aA met (i:Int)=some (decide (k∈n.kids.take p.toNat)):=by rw[ri,k4 i hi,nP]
     simp only[e0,e1,aU];refine af (λh=>bad λh'=>?_) λR8=>af (λh=>bad λh'=>?_) λjd=>?_
     ·obtain ⟨x,hx,h1,h2⟩:=h'.1 k hk;have:x=m.nodes[i]:=nf hs hx (fx hi) (by rw[h1,nP]);subst this;simp[h2]at h
     ·have:=h'.2.sublist (List.take_sublist (p.toNat+1) n.kids);rw[ht,wJ]at this;simp only[az]at h;exact this.2.2 k h k (by simp) rfl
     ·simp only[mF,fc,bz]at R8 jd;refine aH _ ⟨?_,?_,?_,?_,?_,?_⟩ ?_
      ·dsimp only;rw[bq (by omega) (by omega)];omega
      ·dsimp only;rw[bq (by omega) (by omega)];omega
      ·simp[k3]
      ·dsimp only;rw[bq (by omega) (by omega),show(p+1).toNat=p.toNat+1 by omega,ht];intro j hj;rw[x9,uW];by_cases e:i=j
       ·subst e;rw[ap rfl,ap (by omega),nP];simp
       ·rw[ai e,k4 j hj];have:m.nodes[j].iD≠k:=λh=>e (wP hs hi hj (by rw[nP,h]));simp[this]
      ·dsimp only;rw[bq (by omega) (by omega),show(p+1).toNat=p.toNat+1 by omega,ht];intro k' fM;rcases dt.1 fM with h|h
       ·exact k5 k' h
       ·simp at h;subst h;exact⟨m.nodes[i],fx hi,nP,R8⟩
      ·dsimp only;rw[bq (by omega) (by omega),show(p+1).toNat=p.toNat+1 by omega,ht,wJ];exact⟨k6,by simp,λa ha b hb=>by simp at hb;subst hb;exact λe=>jd (e▸ha)⟩
      ·dsimp only;rw[bq (by omega) (by omega)];omega
   ·simp only[bz,fI]at hb;rw[cV (by omega)]at k5 k6;unfold jG;simp[k6];exact k5
end
section
variable{N:Nat}(hN:1073741824<=N)
include hN
theorem aml(m:dX)(hm:se m)(hs:j9 m)(n:Nd)(hn:Ao n):T (F45 N (m,n)) λr=>r=ef m 64 n:=by
 have g4:=hm.len;unfold F45;refine aj (λ_=>ef m 64 n=false) (λJ hJ=>?_) (λ_ h=>aa h.symm);refine aG (λs=>∃f:Nat,f<=64/\s.1.1=65-(f:Int)/\∃x:Nd,Ao x/\x.iD=s.1.2.1/\x.parent=s.1.2.2.2.1/\x.role=s.1.2.2.2.2.1/\ef m 64 n=ef m f x) (λs=>(65-s.1.1).toNat) ⟨64,by omega,by simp,n,hn,rfl,rfl,rfl,rfl⟩ (by dsimp only;omega) ?_;rintro rec ⟨⟨p,a1,a2,a3,a4,a5,a6,a7⟩,u⟩ ⟨f,hf,k1,x,hx,k2,k3,k4,k5⟩ aH;dsimp only at k1 k2 k3 k4;subst k2 k3 k4;refine af (λhb=>?_) (λhb=>hJ _ ?_)
 ·simp only[az]at hb;obtain⟨f,rfl⟩:∃g,f=g+1:=⟨f-1,by omega⟩
  refine af (λh=>aa ?_) λh=>?_
  ·have h:x.parent=0:=by simpa using h
   rw[k5,ef,ap h];rw[Bj];simp
  ·have h:¬x.parent=0:=by simpa using h
   refine an (FI hN m hs (by omega) x.parent) λy hy=>?_;subst hy;rcases yK hs x.parent with⟨e,pW⟩|⟨i,hi,e,nP⟩
   ·rw[e];refine af (λ_=>aa ?_) λh=>by simp at h
    rw[k5,ef,ai h,BF pW]
   ·rw[e];have lq:nodeAt m x.parent=some m.nodes[i]:=by rw[<-nP];exact lm hs hi
    have e0:aA m.nodes (i:Int)=some m.nodes[i]:=ec hi;refine af (λh=>by simp at h;omega) λ_=>an (Qi hN x.role hx.role) λw hw=>?_;subst hw;simp only[e0,aU];have hk5:ef m 64 n=((fT x.role&&decide (x.iD∈m.nodes[i].kids))&&ef m f m.nodes[i]):=by rw[k5,ef,ai h,lq]
    refine af (λh=>aa ?_) λh1=>an (ag5 hN _ x.iD (hm.node _ (fx hi)).kids) λz hz=>af (λh=>aa ?_) λh2=>aH _ ⟨f,by omega,?_,m.nodes[i],hm.node _ (fx hi),rfl,rfl,rfl,?_⟩ ?_
    ·rw[hk5,show fT x.role=false by simpa using h];rfl
    ·rw[hk5,<-hz,show z=false by simpa using h];simp
    ·dsimp only;rw[bq (by omega) (by omega)];omega
    ·rw[hk5,<-hz,show z=true by simpa using h2,show fT x.role=true by simpa using h1];rfl
    ·dsimp only;rw[bq (by omega) (by omega)];omega
 ·simp only[bz]at hb;have:f=0:=by omega
  subst this;rw[k5];rfl
theorem Zm(m:dX)(hm:se m):T (F17 N m) λr=>r=dU m:=by
 have g4:=hm.len;unfold F17;have hh:qa m=false->dU m=false:=λh=>by simp[dU,h]
 refine af (λh=>aa ?_) λh1=>af (λh=>aa ?_) λh2=>af (λh=>aa ?_) λh3=>?_
 ·exact (hh (by simp only[qa,h];rfl)).symm
 ·exact (hh (by simp only[qa];rw[show decide (m.next>1048577)=true from h];simp)).symm
 ·simp only[az]at h;omega
 ·have Wa:qa m=true:=by simp only[qa,h1];rw[show decide (m.next>1048577)=false from h2,show decide ((m.nodes.length:Int)>4096)=false from h3];rfl
  refine aj (λ_=>Jl m=true) (λJ hJ=>?_) (λ_ Ar=>?_)
  ·refine jc hN (n:=m.nodes.length) (by omega) (b:=vu m) λrec i pL=>⟨λhi cY=>?_,λhi=>?_⟩
   ·subst hi;exact af (λh=>by simp at h) λ_=>hJ _ (by unfold Jl;rw[jH.2 cY];rfl)
   ·have jf:vu m i=true->T (some false) λr=>r=dU m:=λh=>aa (by
     have:Jl m=false:=by unfold Jl;rw[ue.2 ⟨i,hi,h⟩];rfl
     simp[dU,this])
    have e0:aA m.nodes (i:Int)=some m.nodes[i]:=ec hi;refine af (λ_=>?_) λh=>by simp at h;omega
    simp only[e0,aU];refine af (λh=>jf (by unfold vu;rw[fO hi,h];rfl)) λh4=>af (λh=>jf (by unfold vu;rw[fO hi,show decide (m.nodes[i].iD≥m.next)=true from h];simp)) λh5=>?_;rw[oB (by omega)];refine af (λh6=>?_) (λh6=>pL ?_ hi)
    ·simp only[az]at h6;rw[bq (by omega) (by omega)];have e1:aA m.nodes ((i:Int)-1)=some (m.nodes[i-1]'(by omega)):=by rw[show(i:Int)-1=((i-1:Nat):Int) by omega];exact ec (by omega)
     simp only[e1,aU];have hb:vu m i=decide (m.nodes[i].iD<=(m.nodes[i-1]'(by omega)).iD):=by unfold vu;rw[fO hi,h4,show decide (m.nodes[i].iD≥m.next)=false from h5,fO (by omega)];rfl
     exact af (λh=>jf (hb.trans h)) λh=>pL (hb.trans h) hi
    ·have:i=0:=by simp only[bz]at h6;omega
     subst this;unfold vu;rw[fO hi,h4,show decide (m.nodes[0].iD≥m.next)=false from h5];rfl
  ·obtain ⟨hs,hr⟩:=Jm Ar;have acR:dU m=m.nodes.all λn=>(pF m n&&jG m n)&&ef m 64 n:=by simp[dU,Wa,Ar]
   rw[acR];refine aj (λ_=>(m.nodes.all λn=>(pF m n&&jG m n)&&ef m 64 n)=true) (λJ hJ=>?_) (λ_ h=>aa h.symm);refine jc hN (n:=m.nodes.length) (by omega) (b:=λi=>!((m.nodes[i]?).map λn=>(pF m n&&jG m n)&&ef m 64 n).getD true) λrec i pL=>⟨λhi cY=>?_,λhi=>?_⟩
   ·subst hi;refine af (λh=>by simp at h) λ_=>hJ _ ?_;rw[cJ];intro n hn;obtain⟨j,hj,rfl⟩:=fR hn;have:=cY j hj;simpa[hj]using this
   ·have e0:aA m.nodes (i:Int)=some m.nodes[i]:=ec hi;have jf:((pF m m.nodes[i]&&jG m m.nodes[i])&&ef m 64 m.nodes[i])=false->T (some false) λr=>r=m.nodes.all λn=>(pF m n&&jG m n)&&ef m 64 n:=λh=>aa (by
     cases e:(m.nodes.all λn=>(pF m n&&jG m n)&&ef m 64 n)with
     |false=>rfl|true=>have:=cJ.1 e _ (fx hi);rw[h]at this;cases this)
    refine af (λ_=>?_) λh=>by simp at h;omega
    simp only[e0,aU];have tM:=hm.node _ (fx hi);refine an (amk hN m hm hs _ tM) λy hy=>?_;subst hy;refine af (λh=>jf (by rw[show(pF m m.nodes[i]&&jG m m.nodes[i])=false by simpa only[hO]using h];rfl)) λh4=>an (aml hN m hm hs _ tM) λz hz=>?_;subst hz;refine af (λh=>jf (by rw[show ef m 64 m.nodes[i]=false by simpa using h];simp)) λh5=>?_;rw[oB (by omega)];refine pL ?_ hi;rw[cq hi];simp only[bQ,dB];rw[show(pF m m.nodes[i]&&jG m m.nodes[i])=true by simpa only[mF]using h4,show ef m 64 m.nodes[i]=true by simpa using h5];rfl
end
section
variable{N:Nat}(hN:1073741824<=N)
include hN
theorem Qk{n:Nd}(hn:Ao n){J:Unit×Unit->Option β}
  (hf:∀rec p,f rec (p,())=bif decide (p<(n.refs.length:Int))then(aA n.refs p).bind λz=>(Et N z.role).bind λy=>bif !y then no else bif decide (z.target<1)then no else bif decide (m.next<=z.target)then no else bif decide (0<p)then(aA n.refs (IntKind.i64.wrap (p-1))).bind λz2=>bif !(Op.bytesLess z2.role z.role)then no else rec (IntKind.i64.wrap (p+1),())else rec (IntKind.i64.wrap (p+1),())else J ((),()))
  (hJ:nw m.next n.refs=false->T (J ((),())) P) (pW:nw m.next n.refs=true->T no P):T (aE f N (0,())) P:=by
 have g2:=hn.refs;refine jc hN g2 (b:=pE m.next n.refs) λrec i pL=>⟨λhi cY=>?_,λhi=>?_⟩
 ·subst hi;rw[hf];exact af (λh=>by simp at h) λ_=>hJ (jH.2 cY)
 ·have jf:pE m.next n.refs i=true->T no P:=λh=>pW (ue.2 ⟨i,hi,h⟩);rw[hf];refine af (λ_=>?_) λh=>by simp at h;omega
  refine aw (by omega) (by omega) λx hx bV=>an (Qj hN x.role (hn.aaA x hx)) λw hw=>?_;simp at bV;subst hw;refine af (λh=>jf (ln bV (.inl (by simpa using h)))) λh3=>af (λh=>jf (ln bV (.inr (.inl (by simpa using h))))) λh4=>af (λh=>jf (ln bV (.inr (.inr (by simpa using h))))) λh5=>?_;simp only[mF,bz]at h3 h4 h5;have h5':¬x.target≥m.next:=by omega
  rw[oB (by omega)];refine af (λh6=>?_) (λh6=>pL ?_ hi)
  ·simp only[az]at h6;rw[bq (by omega) (by omega)];refine aw (by omega) (by omega) λy _ hy=>?_;have mG:=BI (next:=m.next) bV (by omega) (by rw[show i-1=((i:Int)-1).toNat by omega];exact hy);simp only[h3,h4,h5',decide_false,fG,LM,yH]at mG;refine af (λh6=>jf (mG.trans h6)) λh6=>pL (mG.trans h6) hi
  ·have:i=0:=by simp only[bz]at h6;omega
   subst this;rw[BJ bV];simp[h3,h4,h5']
theorem LR{n:Nd}(hn:Ao n){J:Unit×Unit->Option β}
  (hf:∀rec p,f rec (p,())=bif decide (p<(n.aW.length:Int))then(aA n.aW p).bind λz=>(Et N z.name).bind λy=>bif !y then no else bif decide (4096<(z.value.length:Int))then no else bif decide (0<p)then(aA n.aW (IntKind.i64.wrap (p-1))).bind λz2=>bif !(Op.bytesLess z2.name z.name)then no else rec (IntKind.i64.wrap (p+1),())else rec (IntKind.i64.wrap (p+1),())else J ((),()))
  (hJ:kr n.aW=false->T (J ((),())) P) (pW:kr n.aW=true->T no P):T (aE f N (0,())) P:=by
 have g1:=hn.aW;refine jc hN g1 (b:=mg n.aW) λrec i pL=>⟨λhi cY=>?_,λhi=>?_⟩
 ·subst hi;rw[hf];exact af (λh=>by simp at h) λ_=>hJ (jH.2 cY)
 ·have jf:mg n.aW i=true->T no P:=λh=>pW (ue.2 ⟨i,hi,h⟩);rw[hf];refine af (λ_=>?_) λh=>by simp at h;omega
  refine aw (by omega) (by omega) λx hx bV=>an (Qj hN x.name (hn.name x hx)) λw hw=>?_;simp at bV;subst hw;refine af (λh=>jf (oT bV (.inl (by simpa using h)))) λh3=>af (λh=>jf (oT bV (.inr (by simpa using h)))) λh4=>?_;simp only[mF,bz,fI]at h3 h4;have h4':¬(x.value.length:Int)>4096:=by omega
  rw[oB (by omega)];refine af (λh5=>?_) (λh5=>pL ?_ hi)
  ·simp only[az]at h5;rw[bq (by omega) (by omega)];refine aw (by omega) (by omega) λy _ hy=>?_;have mG:=yM bV (by omega) (by rw[show i-1=((i:Int)-1).toNat by omega];exact hy);simp only[h3,h4',decide_false,fG,LM,yH]at mG;refine af (λh6=>jf (mG.trans h6)) λh6=>pL (mG.trans h6) hi
  ·have:i=0:=by simp only[bz]at h5;omega
   subst this;rw[yN bV];simp[h3,h4']
theorem amm(m:dX)(hm:se m)(n:Nd)(hn:Ao n):T (F51 N (m,n)) λr=>r=jF m n:=by
 have g3:=hn.kids;have g4:=hm.len;have XM:kr n.aW=true->jF m n=false:=λh=>by simp[jF,h]
 have hrb:nw m.next n.refs=true->jF m n=false:=λh=>by simp[jF,h]
 have eP:(n.parent==0)=decide (n.parent=0):=by rw[Bj];simp
 have eR:(n.role==[])=decide (n.role=[]):=by cases n.role<;>rfl
 unfold F51;refine an (Qj hN n.ab hn.ab) λy hy=>?_;subst hy;refine af (λh=>aa ?_) λh1=>af (λh=>aa ?_) λh2=>?_
 ·simp only[hO]at h;simp[jF,h]
 ·have:(decide (n.parent=0)==decide (n.role=[]))=false:=by simp only[hO]at h;rw[eP,eR]at h;exact h
  simp[jF,this]
 ·have h1:fT n.ab=true:=by simpa using h1
  have h2:(decide (n.parent=0)==decide (n.role=[]))=true:=by simp only[mF]at h2;rw[eP,eR]at h2;exact h2
  have tail:(decide (n.role=[])||fT n.role)=true->T (bif decide ((m.nodes.length:Int)<(n.kids.length:Int))then some false else some true) λr=>r=true->n.kids.length<=m.nodes.length:=λ_=>af (λ_=>aa (by simp)) λh=>aa λ_=>by simp only[bz]at h;omega
  have fin:(decide (n.role=[])||fT n.role)=true->n.kids.length<=m.nodes.length->kr n.aW=false->nw m.next n.refs=false->jF m n=true:=λa b c d=>by unfold jF;rw[h1,h2,a,c,d,wy b];rfl
  have hkb:¬n.kids.length<=m.nodes.length->jF m n=false:=λh=>by simp[jF,h]
  refine af (λh=>?_) λh=>?_
  ·refine an (Qj hN n.role hn.role) λw hw=>?_;subst hw;refine af (λh3=>aa ?_) λh3=>af (λh4=>aa ?_) λh4=>?_
   ·have a:(decide (n.role=[])||fT n.role)=false:=by
     have e1:n.role≠[]:=by simpa using h
     simp only[hO]at h3;simp[e1,h3]
    unfold jF;rw[a];simp
   ·exact (hkb (by simp only[az]at h4;omega)).symm
   ·have hk:n.kids.length<=m.nodes.length:=by simp only[bz]at h4;omega
    have a:(decide (n.role=[])||fT n.role)=true:=by rw[show fT n.role=true by simpa using h3];simp
    refine aj (λ_=>kr n.aW=false) (λJ hJ=>LR hN hn (λ_ _=>rfl) (λh=>hJ _ h) (λh=>aa (XM h).symm)) (λ_ hp=>aj (λ_=>nw m.next n.refs=false) (λJ hJ=>Qk hN hn (m:=m) (λ_ _=>rfl) (λh=>hJ _ h) (λh=>aa (hrb h).symm)) (λ_ hr=>aa (fin a hk hp hr).symm))
  ·have e1:n.role=[]:=by simpa using h
   refine af (λh4=>aa ?_) λh4=>?_
   ·exact (hkb (by simp only[az]at h4;omega)).symm
   ·have hk:n.kids.length<=m.nodes.length:=by simp only[bz]at h4;omega
    have a:(decide (n.role=[])||fT n.role)=true:=by rw[e1];rfl
    refine aj (λ_=>kr n.aW=false) (λJ hJ=>LR hN hn (λ_ _=>rfl) (λh=>hJ _ h) (λh=>aa (XM h).symm)) (λ_ hp=>aj (λ_=>nw m.next n.refs=false) (λJ hJ=>Qk hN hn (m:=m) (λ_ _=>rfl) (λh=>hJ _ h) (λh=>aa (hrb h).symm)) (λ_ hr=>aa (fin a hk hp hr).symm))
theorem amn(m:dX)(hm:Hj m):T (F52 N m) λr=>r=if mh m=true then 0 else 29:=by
 have hs:=hm.sorted;have g4:=hm.ok.len;have Qb:∀id,yJ id->T (L9 N (m,id)) λr=>r=Jk m id:=λid nP=>Zl hN m hs hm.ids (by omega) id nP;have no:mh m=false->T (some (29:Int)) λr=>r=if mh m=true then 0 else 29:=λh=>aa (by rw[h];rfl)
 have WS:¬wR m->mh m=false:=λh=>by simp[mh,h]
 unfold F52;refine bO (by simp[bi (b:=8) (n:=m.nodes.length) (m:=281474976710656) (by omega) (by omega)]) (aj (λs=>wR m/\s.1=wQ m (m.nodes.flatMap Nd.kids)) (λJ hJ=>?_) (λx hx=>?_))
 ·refine aG (λs=>0<=s.1.1/\s.1.1<=m.nodes.length/\s.1.2=wQ m ((m.nodes.take s.1.1.toNat).flatMap Nd.kids)/\∀n∈m.nodes.take s.1.1.toNat,∀k∈n.kids,vr m n k) (λs=>(m.nodes.length-s.1.1).toNat) ⟨by simp,by simp,?_,by simp⟩ (by dsimp only;omega) ?_
  ·simp only[Int.toNat_zero,vG,LG,wQ];apply uX;intro i;by_cases hi:i<m.nodes.length
   ·simp[hi]
   ·simp[hi]
  rintro rec ⟨⟨p,met⟩,u⟩ ⟨k1,k2,k3,k4⟩ aH;dsimp only at k1 k2 k3 k4;refine af (λhb=>?_) (λhb=>hJ _ ?_)
  ·simp only[az]at hb;refine aj (λs=>s.1=wQ m ((m.nodes.take (p.toNat+1)).flatMap Nd.kids)/\∀n∈m.nodes.take (p.toNat+1),∀k∈n.kids,vr m n k) (λJ2 Jd=>?_) (λx hx=>aH _ ⟨?_,?_,?_,?_⟩ ?_)
   ·refine aw k1 hb λn hn E0=>?_;have tM:=hm.ok.node n hn;have g3:=tM.kids;have xm:p.toNat<m.nodes.length:=by omega
    have hnp:m.nodes[p.toNat]=n:=by obtain ⟨_,h⟩:=aV.1 E0;exact h
    have ht:m.nodes.take (p.toNat+1)=m.nodes.take p.toNat++[n]:=by rw[<-hnp];exact (kO xm).symm
    have hft:=Hk xm;rw[hnp]at hft;have Gy:=R6 hm.ok p.toNat;refine aG (λs=>0<=s.1.1/\s.1.1<=n.kids.length/\s.1.2=wQ m ((m.nodes.take p.toNat).flatMap Nd.kids++n.kids.take s.1.1.toNat)/\∀k∈n.kids.take s.1.1.toNat,vr m n k) (λs=>(n.kids.length-s.1.1).toNat) ⟨by simp,by simp,by simp[k3],by simp⟩ (by dsimp only;omega) ?_;rintro Zc ⟨⟨q,amo⟩,u2⟩ ⟨j1,j2,j3,j4⟩ yA;dsimp only at j1 j2 j3 j4;refine af (λdZ=>?_) (λdZ=>Jd _ ⟨?_,?_⟩)
    ·simp only[az]at dZ;refine aw j1 dZ λk hk fM=>an (Qb k (tM.kid k hk)) λy hy=>?_;subst hy;have L7:n.kids.take (q.toNat+1)=n.kids.take q.toNat++[k]:=by obtain⟨hi,rfl⟩:=aV.1 fM;exact(kO hi).symm
     rcases yK hs k with⟨e,pW⟩|⟨i,hi,e,nP⟩
     ·rw[e];refine no (WS λh=>?_);obtain⟨x,hx,h1,_⟩:=h n hn k hk;exact pW x hx h1
     ·rw[e];refine af (λh=>by simp at h;omega) λ_=>?_;have e0:aA m.nodes (i:Int)=some m.nodes[i]:=ec hi;have e1:aA amo (i:Int)=some ((((m.nodes.take p.toNat).flatMap Nd.kids++n.kids.take q.toNat).count m.nodes[i].iD:Nat):Int):=by rw[ri,j3,LO _ hi]
      have ans:((m.nodes.take p.toNat).flatMap Nd.kids++n.kids.take q.toNat).count m.nodes[i].iD<=4611686018427387904:=by refine dI List.count_le_length ?_;rw[kR,my];have:p.toNat*1048576<=4096*1048576:=fK _ (by omega);omega
      simp only[e0,e1,aU];refine af (λh=>no (WS λh'=>?_)) λR8=>yA _ ⟨?_,?_,?_,?_⟩ ?_
      ·obtain ⟨x,hx,h1,h2⟩:=h' n hn k hk;have:x=m.nodes[i]:=nf hs hx (fx hi) (by rw[h1,nP]);subst this;simp[h2]at h
      ·dsimp only;rw[bq (by omega) (by omega)];omega
      ·dsimp only;rw[bq (by omega) (by omega)];omega
      ·dsimp only;rw[bq (x:=q+1) (by omega) (by omega),show(q+1).toNat=q.toNat+1 by omega,L7,<-sO,x9,j3,bq (by omega) (by omega)];have:=V7 hs ((m.nodes.take p.toNat).flatMap Nd.kids++n.kids.take q.toNat) hi;rw[nP]at this⊢;rw[<-this];congr 1
      ·dsimp only;rw[bq (by omega) (by omega),show(q+1).toNat=q.toNat+1 by omega,L7];intro k' fM;rcases dt.1 fM with h|h
       ·exact j4 k' h
       ·simp at h;subst h;exact⟨m.nodes[i],fx hi,nP,by simpa using R8⟩
      ·dsimp only;rw[bq (by omega) (by omega)];omega
    ·simp only[bz,fI]at dZ;rw[cV (l:=n.kids) (by omega)]at j3;rw[hft];exact j3
    ·simp only[bz,fI]at dZ;rw[cV (l:=n.kids) (by omega)]at j4;rw[ht];intro x hx;rcases dt.1 hx with h|h
     ·exact k4 x h
     ·simp at h;subst h;exact j4
   ·dsimp only;rw[bq (by omega) (by omega)];omega
   ·dsimp only;rw[bq (by omega) (by omega)];omega
   ·dsimp only;rw[bq (by omega) (by omega),show(p+1).toNat=p.toNat+1 by omega];exact hx.1
   ·dsimp only;rw[bq (by omega) (by omega),show(p+1).toNat=p.toNat+1 by omega];exact hx.2
   ·dsimp only;rw[bq (by omega) (by omega)];omega
  ·simp only[bz,fI]at hb;rw[cV (by omega)]at k3 k4;exact⟨k4,k3⟩
 ·obtain ⟨met,u⟩:=x;obtain⟨hk,ag6⟩:=hx;dsimp only at ag6;have hcb:∀i(hi:i<m.nodes.length),kQ m m.nodes[i]=false->mh m=false:=λi hi h=>by
   have:m.nodes.all (kQ m)=false:=by
    cases e:m.nodes.all (kQ m)with
    |false=>rfl|true=>have:=cJ.1 e _ (fx hi);rw[h]at this;cases this
   simp[mh,this]
  refine aj (λ_=>m.nodes.all (kQ m)=true) (λJ hJ=>?_) (λ_ Wd=>?_)
  ·refine jc hN (n:=m.nodes.length) (by omega) (b:=λi=>!((m.nodes[i]?).map (kQ m)).getD true) λrec i pL=>⟨λhi cY=>?_,λhi=>?_⟩
   ·subst hi;refine af (λh=>by simp at h) λ_=>hJ _ ?_;rw[cJ];intro n hn;obtain⟨j,hj,rfl⟩:=fR hn;have:=cY j hj;simpa[hj]using this
   ·have e0:aA m.nodes (i:Int)=some m.nodes[i]:=ec hi;have e1:aA met (i:Int)=some (((m.nodes.flatMap Nd.kids).count m.nodes[i].iD:Nat):Int):=by rw[ri,ag6,LO _ hi]
    refine af (λ_=>?_) λh=>by simp at h;omega
    simp only[e0,e1,aU];rw[oB (by omega)];have yes:kQ m m.nodes[i]=true->T (rec (((i+1:Nat):Int),())) λr=>r=if mh m=true then 0 else 29:=λh=>pL (by rw[cq hi];simp[h]) hi
    refine af (λhp=>af (λh=>no (hcb i hi ?_)) λh=>af (λh'=>?_) λ_=>yes ?_) λhp=>af (λ_=>af (λh=>no (hcb i hi ?_)) λh=>yes ?_) λh'=>?_
    ·have hp:m.nodes[i].parent=0:=by simpa using hp
     have h:(m.nodes.flatMap Nd.kids).count m.nodes[i].iD≠0:=by simp only[hO,ma,ne_eq]at h;omega
     unfold kQ;rw[ap hp];exact mZ h
    ·rw[hp]at h';cases h'
    ·have hp:m.nodes[i].parent=0:=by simpa using hp
     have h:(m.nodes.flatMap Nd.kids).count m.nodes[i].iD=0:=by simp only[mF,fc]at h;omega
     unfold kQ;rw[ap hp];exact wy h
    ·have hp:¬m.nodes[i].parent=0:=by simpa using hp
     have h:(m.nodes.flatMap Nd.kids).count m.nodes[i].iD≠1:=by simp only[hO,ma,ne_eq]at h;omega
     unfold kQ;rw[ai hp];exact mZ h
    ·have hp:¬m.nodes[i].parent=0:=by simpa using hp
     have h:(m.nodes.flatMap Nd.kids).count m.nodes[i].iD=1:=by simp only[mF,fc]at h;omega
     unfold kQ;rw[ai hp];exact wy h
    ·rw[hp]at h';cases h'
  ·have hh:mh m=m.nodes.all (ke m 64):=by simp[mh,hk,Wd]
   refine aj (λ_=>m.nodes.all (ke m 64)=true) (λJ hJ=>?_) (λ_ h=>aa (by rw[hh,h];rfl));refine jc hN (n:=m.nodes.length) (by omega) (b:=λi=>!((m.nodes[i]?).map (ke m 64)).getD true) λrec i pL=>⟨λhi cY=>?_,λhi=>?_⟩
   ·subst hi;refine af (λh=>by simp at h) λ_=>hJ _ ?_;rw[cJ];intro n hn;obtain⟨j,hj,rfl⟩:=fR hn;have:=cY j hj;simpa[hj]using this
   ·have e0:aA m.nodes (i:Int)=some m.nodes[i]:=ec hi;refine af (λ_=>?_) λh=>by simp at h;omega
    refine aj (λ_=>ke m 64 m.nodes[i]=true) (λJ2 Jd=>?_) (λ_ h=>?_)
    ·simp only[e0,aU];refine aj (λ_=>ke m 64 m.nodes[i]=false) (λJ3 hJ3=>?_) (λ_ h=>no ?_)
     ·refine aG (λs=>∃f:Nat,f<=64/\s.1.1=65-(f:Int)/\∃x∈m.nodes,x.parent=s.1.2.2.2.1/\ke m 64 m.nodes[i]=ke m f x) (λs=>(65-s.1.1).toNat) ⟨64,by omega,by simp,_,fx hi,rfl,rfl⟩ (by dsimp only;omega) ?_;rintro Zc ⟨⟨p,a1,a2,a3,a4,a5,a6,a7⟩,u⟩ ⟨f,hf,k1,x,hx,k3,k5⟩ yA;dsimp only at k1 k3;subst k3;refine af (λhb=>?_) (λhb=>hJ3 _ ?_)
      ·simp only[az]at hb;obtain⟨f,rfl⟩:∃g,f=g+1:=⟨f-1,by omega⟩
       refine af (λh=>Jd _ ?_) λh=>?_
       ·have h:x.parent=0:=by simpa using h
        rw[k5,ke,ap h]
       ·have h:¬x.parent=0:=by simpa using h
        obtain⟨y,hy,_⟩:=yL hs hk Wd x hx h;obtain⟨hym,ag7⟩:=gu hy;obtain⟨j,hj,rfl⟩:=fR hym;refine an (Qb x.parent (hm.ok.node x hx).parent) λz hz=>?_;have:z=(j:Int):=by rw[hz,<-ag7];exact gQ hs hj
        subst this;have e1:aA m.nodes (j:Int)=some m.nodes[j]:=ec hj;simp only[e1,aU];refine yA _ ⟨f,by omega,?_,m.nodes[j],fx hj,rfl,?_⟩ ?_
        ·dsimp only;rw[bq (by omega) (by omega)];omega
        ·rw[k5,ke,ai h,hy]
        ·dsimp only;rw[bq (by omega) (by omega)];omega
      ·simp only[bz]at hb;have:f=0:=by omega
       subst this;rw[k5];rfl
     ·rw[hh];cases e:m.nodes.all (ke m 64)with
      |false=>rfl|true=>have:=cJ.1 e _ (fx hi);rw[h]at this;cases this
    ·rw[oB (by omega)];exact pL (by rw[cq hi];simp[h]) hi
end
def Jo(m:dX)(i:Nat)(hi:i<m.nodes.length):Prop:=wS m i<m.nodes[i].iD/\m.nodes[i].iD<m.next/\jF m m.nodes[i]=true
theorem wT(hi:i<m.nodes.length)(h:0<i):wS m i=(m.nodes[i-1]'(by omega)).iD:=by unfold wS;rw[fO ⟨h,by omega⟩]
theorem uf(m:dX):wS m 0=0:=by unfold wS;rw[dif_neg (by omega)]
theorem As(hm:se m)(hi:i<m.nodes.length)(h:¬Jo m i hi):dU m=false:=by
 cases e:dU m with
 |false=>rfl|true=>
  exfalso;have Zn:=ud hm e;have hc:=BH Zn;unfold dU at e;rw[aD,aD]at e;obtain⟨_,e2,e3⟩:=e;obtain⟨hs,hr⟩:=Jm e2;rw[e3,aD]at hc;have ha:=cJ.1 hc.1 _ (fx hi);have hri:=hr _ (fx hi);refine h ⟨?_,by omega,ha⟩;by_cases h0:0<i
  ·rw[wT hi h0];exact hs (i-1) i (by omega) hi
  ·have:i=0:=by omega
   subst this;rw[uf];omega
theorem Oe(hm:se m)(hh:qa m=true)(Ql:∀i(hi:i<m.nodes.length),Jo m i hi):Hj m/\dU m=mh m:=by
 have lv:∀i(hi:i<m.nodes.length),1<=m.nodes[i].iD:=by
  intro i;induction i with
  |zero=>intro hi;have:=(Ql 0 hi).1;rw[uf]at this;omega|succ i ih=>
   intro hi;have h1:=(Ql (i+1) hi).1;rw[wT hi (by omega)]at h1;have h2:=ih (by omega);simp only[Nat.add_sub_cancel]at h1;omega
 have Ar:Jl m=true:=by
  unfold Jl;rw[hO,Bh];intro i hi;have hi:=nT.1 hi;obtain⟨g1,g2,_⟩:=Ql i hi;have:=lv i hi;unfold vu;simp only[hi,fO,lP,az,not_or];refine⟨⟨by omega,by omega⟩,?_⟩;by_cases h0:0<i
  ·rw[wT hi h0]at g1;simp only[h0,fO,az];omega
  ·simp[h0]
 obtain⟨hs,hr⟩:=Jm Ar;have am6:m.next<=1048577:=by unfold qa at hh;simp only[hO,GF,bz]at hh;omega
 have Zn:Hj m:=⟨hm,hs,λn hn=>by have:=hr n hn;omega⟩
 have hc:=BH Zn;have cY:m.nodes.all (jF m)=true:=cJ.2 λn hn=>by obtain⟨i,hi,rfl⟩:=fR hn;exact(Ql i hi).2.2
 rw[cY,nO]at hc;exact⟨Zn,by unfold dU;rw[hh,Ar,<-hc];rfl⟩
section
variable{N:Nat}(hN:1073741824<=N)
include hN
theorem We(m:dX)(hm:se m):T (F24 N m) λr=>r=if dU m=true then 0 else 29:=by
 have g4:=hm.len;have no:dU m=false->T (some (29:Int)) λr=>r=if dU m=true then 0 else 29:=λh=>aa (by rw[h];rfl)
 have hh:qa m=false->dU m=false:=λh=>by simp[dU,h]
 unfold F24;refine af (λh=>no ?_) λh1=>af (λh=>no ?_) λh2=>af (λh=>no ?_) λh3=>?_
 ·exact hh (by simp only[qa,h];rfl)
 ·exact hh (by simp only[qa];rw[show decide (m.next>1048577)=true from h];simp)
 ·simp only[az]at h;omega
 ·have Wa:qa m=true:=by simp only[qa,h1];rw[show decide (m.next>1048577)=false from h2,show decide ((m.nodes.length:Int)>4096)=false from h3];rfl
  refine aj (λ_=>∀i(hi:i<m.nodes.length),Jo m i hi) (λJ hJ=>?_) (λ_ hg=>?_)
  ·refine aG (λs=>∃i:Nat,s.1.2=i/\i<=m.nodes.length/\s.1.1=wS m i/\∀j(hj:j<m.nodes.length),j<i->Jo m j hj) (λs=>m.nodes.length-s.1.2.toNat) ⟨0,rfl,by omega,(uf m).symm,λj hj h=>by omega⟩ (by dsimp only;omega) ?_;rintro rec ⟨⟨last,p⟩,u⟩ ⟨i,hp,k2,k3,k4⟩ aH;dsimp only at hp k3;subst hp k3;refine af (λhb=>?_) (λhb=>hJ _ λj hj=>k4 j hj ?_)
   ·simp only[az]at hb;have hi:i<m.nodes.length:=by omega
    have e0:aA m.nodes (i:Int)=some m.nodes[i]:=ec hi;simp only[e0,aU];refine af (λh=>no (As hm hi λhg=>?_)) λh4=>af (λh=>no (As hm hi λhg=>?_)) λh5=>an (amm hN m hm _ (hm.node _ (fx hi))) λy hy=>?_
    ·simp only[az]at h;have:=hg.1;omega
    ·simp only[az]at h;have:=hg.2.1;omega
    ·subst hy;simp only[bz]at h4 h5;refine af (λh=>no (As hm hi λhg=>by rw[hg.2.2]at h;cases h)) λh6=>aH _ ⟨i+1,?_,by omega,?_,λj hj eK=>?_⟩ ?_
     ·dsimp only;rw[oB (by omega)]
     ·dsimp only;unfold wS;rw[fO ⟨by omega,by omega⟩];simp
     ·by_cases e:j=i
      ·subst e;exact⟨by omega,by omega,by simpa using h6⟩
      ·exact k4 j hj (by omega)
     ·dsimp only;rw[oB (by omega)];omega
   ·simp only[bz,fI]at hb;omega
  ·obtain ⟨Zn,e⟩:=Oe hm Wa hg;rw[e];exact an (amn hN m Zn) λy hy=>aa hy
theorem ag8(l:List IZ)(hl:l.length<=1048576):T (acw N l) λr=>r=l:=l9 (by omega) (by omega)
theorem ag9(l:List Rf)(hl:l.length<=1048576):T (acx N l) λr=>r=l:=l9 (by omega) (by omega)
theorem amp(n:Nd)(hn:Ao n):T (F54 N n) λr=>r=n:=by have g1:=hn.aW;have g2:=hn.refs;have g3:=hn.kids;unfold F54;refine an (ag8 hN n.aW g1) λy hy=>an (ag9 hN n.refs g2) λz hz=>bO (by simp[bi (b:=8) (n:=n.kids.length) (m:=281474976710656) (by omega) (by omega)]) (aa ?_);subst hy hz;simp
theorem acS(m:dX)(hm:se m)(id:Int)(nP:yJ id):T (F25 N (m,id)) λr=>r=findF m id:=by
 have g4:=hm.len;unfold F25;refine an (We hN m hm) λy hy=>?_;cases e:dU m with
 |false=>rw[e]at hy;subst hy;exact aa (by simp only[findF,e];rfl)|true=>
  rw[e]at hy;subst hy;have Zn:=ud hm e;have hs:=Zn.sorted;refine an (Zl hN m hs Zn.ids (by omega) id nP) λz hz=>?_;subst hz;rcases yK hs id with⟨e1,pW⟩|⟨i,hi,e1,amq⟩
  ·rw[e1];refine aa ?_;simp only[findF,e,bp];rw[BF pW];rfl
  ·rw[e1];have e0:aA m.nodes (i:Int)=some m.nodes[i]:=ec hi;refine af (λ_=>?_) λh=>by simp at h
   simp only[e0,aU];refine an (amp hN _ (hm.node _ (fx hi))) λw hw=>aa ?_;subst hw;simp only[findF,e,bp];rw[<-amq,lm hs hi]
end
def iu(m:dX):Nat->Nd->Nat
 |0,_=>0|f+1,x=>if x.parent=0 then 1 else match nodeAt m x.parent with
  |none=>0|some p=>iu m f p+1
def iI(m:dX)(x:Nd)(role:bE):List Int:=x.kids.filter λk=>((nodeAt m k).map λy=>y.role==role).getD false
structure qt(m:dX):Prop where
 right:dU m=true
 rd:Hj m
 below:∀n∈m.nodes,ef m 64 n=true
 kids:∀n∈m.nodes,∀k∈n.kids,vr m n k
theorem Jp(hm:se m)(h:dU m=true):qt m:=by
 have h':=h;unfold dU at h';rw[aD,aD]at h';obtain⟨_,_,h3⟩:=h';have h4:=cJ.1 h3;refine⟨h,ud hm h,λn hn=>?_,λn hn=>?_⟩
 ·have:=h4 n hn;simp only[aD]at this;exact this.2
 ·have:=h4 n hn;simp only[aD,jG,az]at this;exact this.1.2.1
section
variable{N:Nat}(hN:1073741824<=N)
include hN
theorem LS(hr:qt m)(hA:∀id,yJ id->T (A id) λr=>r=Jk m id){J:Int×Unit->Option β}{f:((Int×Int)×Unit->Option β)->(Int×Int)×Unit->Option β}
  (hf:∀rec id n,f rec ((id,n),())=bif !(id==0)then(A id).bind λy=>(aA m.nodes y).bind λz=>rec ((z.parent,IntKind.i64.wrap (n+1)),())else J (n,()))
  {x:Nd} (hx:x∈m.nodes) (hJ:T (J ((iu m 64 x:Nat),())) P):T (aE f N ((x.iD,0),())) P:=by
 have hs:=hr.rd.sorted;have Ar:=hr.rd.ids;refine aG (λs=>(s.1.1=0/\s.1.2=(iu m 64 x:Nat))∨∃(k:Nat)(f:Nat)(y:Nd),y∈m.nodes/\s.1.1=y.iD/\s.1.2=(k:Int)/\k+f<=64/\ef m f y=true/\iu m 64 x=k+iu m f y) (λs=>if s.1.1=0 then 0 else(65-s.1.2).toNat) (.inr ⟨0,64,x,hx,rfl,rfl,by omega,hr.below x hx,by simp⟩) (by dsimp only;split<;>omega) ?_;rintro rec ⟨⟨id,n⟩,u⟩ hI aH;dsimp only at hI aH;rw[hf];rcases hI with⟨rfl,rfl⟩|⟨k,f',y,hy,rfl,rfl,hkf,hb,hd⟩
 ·exact hJ
 ·have ag7:=Ar y hy;refine af (λ_=>?_) λh=>by simp at h;omega
  obtain⟨i,hi,rfl⟩:=fR hy;refine an (hA _ ⟨by omega,by omega⟩) λz hz=>?_;have:z=(i:Int):=by rw[hz];exact gQ hs hi
  subst this;have e1:aA m.nodes (i:Int)=some m.nodes[i]:=ec hi;simp only[e1,aU];cases f' with
  |zero=>cases hb
  |succ f'=>
   have dA:¬m.nodes[i].iD=0:=by omega
   by_cases hp:m.nodes[i].parent=0
   ·refine aH _ (.inl ⟨hp,?_⟩) ?_
    ·dsimp only;rw[bq (by omega) (by omega),hd,iu,ap hp];omega
    ·dsimp only;rw[ap hp,ai dA];omega
   ·rw[ef,ai hp]at hb;cases lq:nodeAt m m.nodes[i].parent with
    |none=>rw[lq]at hb;cases hb
    |some q=>
     rw[lq]at hb;simp only[aD]at hb;obtain⟨hq,amr⟩:=gu lq;refine aH _ (.inr ⟨k+1,f',q,hq,amr.symm,?_,by omega,hb.2,?_⟩) ?_
     ·dsimp only;rw[bq (by omega) (by omega)];omega
     ·rw[hd,iu,ai hp,lq];simp only;omega
     ·dsimp only;rw[ai hp,ai dA,bq (by omega) (by omega)];omega
theorem Qm(hr:qt m)(hA:∀id,yJ id->T (A id) λr=>r=Jk m id){x:Nd}(hx:x∈m.nodes)(role:bE){J:List Int×Unit->Option β}{f:((List Int×Int)×Unit->Option β)->(List Int×Int)×Unit->Option β}
  (hf:∀rec out p,f rec ((out,p),())=bif decide (p<(x.kids.length:Int))then aM (λ(s:List Int×Unit)=>rec ((s.1,IntKind.i64.wrap (p+1)),())) λJ2=>(aA x.kids p).bind λz=>(A z).bind λy=>(aA m.nodes y).bind λw=>bif w.role==role then(db (fits 8 (out.length+[z].length) 140737488355328)).bind λ_=>J2 (out++[z],())else J2 (out,())else J (out,()))
  (hJ:T (J (iI m x role,())) P):T (aE f N (([],0),())) P:=by
 have hs:=hr.rd.sorted;have hxd:=hr.rd.ok.node x hx;have g3:=hxd.kids;refine aG (λs=>0<=s.1.2/\s.1.2<=x.kids.length/\s.1.1=(x.kids.take s.1.2.toNat).filter λk=>((nodeAt m k).map λy=>y.role==role).getD false) (λs=>(x.kids.length-s.1.2).toNat) ⟨by simp,by simp,by simp⟩ (by dsimp only;omega) ?_;rintro rec ⟨⟨out,p⟩,u⟩ ⟨k1,k2,k3⟩ aH;dsimp only at k1 k2 k3;rw[hf];refine af (λhb=>?_) (λhb=>?_)
 ·simp only[az]at hb;have hol:out.length<=1048576:=by rw[k3];refine dI (Up _ _) ?_;rw[my];omega
  refine aj (λs=>s.1=(x.kids.take (p.toNat+1)).filter λk=>((nodeAt m k).map λy=>y.role==role).getD false) (λJ2 Jd=>?_) (λs iX=>aH _ ⟨?_,?_,?_⟩ ?_)
  ·refine aw k1 hb λk hk fM=>an (hA k (hxd.kid k hk)) λz hz=>?_;have ht:x.kids.take (p.toNat+1)=x.kids.take p.toNat++[k]:=by obtain⟨hi,rfl⟩:=aV.1 fM;exact(kO hi).symm
   obtain⟨y,hy,Mb,AX⟩:=hr.kids x hx k hk;obtain⟨i,hi,rfl⟩:=fR hy;have:z=(i:Int):=by rw[hz,<-Mb];exact gQ hs hi
   subst this;have e1:aA m.nodes (i:Int)=some m.nodes[i]:=ec hi;have lq:nodeAt m k=some m.nodes[i]:=by rw[<-Mb];exact lm hs hi
   simp only[e1,aU];refine af (λh=>bO (bi (by simp;omega) (by simp;omega)) (Jd _ ?_)) λh=>Jd _ ?_
   ·dsimp only;rw[ht,Qg,<-k3,V3 (by rw[lq];exact h)];rfl
   ·dsimp only;rw[ht,Qg,<-k3,V0 (by rw[lq];simp only[bQ,dB,h];simp)];simp
  ·dsimp only;rw[bq (by omega) (by omega)];omega
  ·dsimp only;rw[bq (by omega) (by omega)];omega
  ·dsimp only;rw[bq (by omega) (by omega),show(p+1).toNat=p.toNat+1 by omega];exact iX
  ·dsimp only;rw[bq (by omega) (by omega)];omega
 ·simp only[bz,fI]at hb;rw[cV (by omega)]at k3;rw[k3];exact hJ
theorem ams(m:dX)(hr:qt m){x:Nd}(hx:x∈m.nodes):T (F20 N (m,x.iD)) λr=>r=(iu m 64 x:Nat):=by
 have hm:=hr.rd.ok;have g4:=hm.len;have hs:=hr.rd.sorted;unfold F20;refine an (Zm hN m hm) λy hy=>?_;rw[hr.right]at hy;subst hy;refine an (FI hN m hs (by omega) x.iD) λz hz=>?_;obtain⟨i,hi,rfl⟩:=fR hx;have:z=(i:Int):=by rw[hz];exact gQ hs hi
 subst this;refine af (λh=>by simp at h;omega) λ_=>?_;unfold F47;refine an (aj (λs=>s.1=(iu m 64 m.nodes[i]:Nat)) (λJ hJ=>LS hN hr (A:=λid=>N4 N (m,id)) (λid _=>FI hN m hs (by omega) id) (λ_ _ _=>rfl) hx (hJ _ rfl)) (λs h=>aa h)) λw hw=>aa hw
theorem amt(m:dX)(hr:qt m){x:Nd}(hx:x∈m.nodes):T (F27 N (m,x.iD)) λr=>r=(iu m 64 x:Nat):=by
 have hm:=hr.rd.ok;have g4:=hm.len;have hs:=hr.rd.sorted;have Ar:=hr.rd.ids;have Qb:∀id,yJ id->T (L9 N (m,id)) λr=>r=Jk m id:=λid nP=>Zl hN m hs Ar (by omega) id nP;unfold F27;refine an (We hN m hm) λy hy=>?_;rw[hr.right]at hy;subst hy;have ET:=Ar x hx;refine an (Qb x.iD ⟨by omega,by omega⟩) λz hz=>?_;obtain⟨i,hi,rfl⟩:=fR hx;have:z=(i:Int):=by rw[hz];exact gQ hs hi
 subst this;refine af (λh=>by simp at h;omega) λ_=>?_;unfold F56;refine an (aj (λs=>s.1=(iu m 64 m.nodes[i]:Nat)) (λJ hJ=>LS hN hr (A:=λid=>L9 N (m,id)) Qb (λ_ _ _=>rfl) hx (hJ _ rfl)) (λs h=>aa h)) λw hw=>aa hw
theorem aha(m:dX)(hr:qt m){x:Nd}(hx:x∈m.nodes)(role:bE):T (F21 N (m,x.iD,role)) λr=>r=iI m x role:=by
 have hm:=hr.rd.ok;have g4:=hm.len;have hs:=hr.rd.sorted;unfold F21;refine an (Zm hN m hm) λy hy=>?_;rw[hr.right]at hy;subst hy;refine an (FI hN m hs (by omega) x.iD) λz hz=>?_;obtain⟨i,hi,rfl⟩:=fR hx;have:z=(i:Int):=by rw[hz];exact gQ hs hi
 subst this;refine af (λh=>by simp at h;omega) λ_=>?_;unfold F48;have e1:aA m.nodes (i:Int)=some m.nodes[i]:=ec hi;refine an (an (FI hN m hs (by omega) _) λz hz=>?_) λw hw=>aa hw;have:z=(i:Int):=by rw[hz];exact gQ hs hi
 subst this;simp only[e1,aU];refine aj (λs=>s.1=iI m m.nodes[i] role) (λJ hJ=>Qm hN hr (A:=λid=>N4 N (m,id)) (λid _=>FI hN m hs (by omega) id) hx role (λrec out p=>?_) (hJ _ rfl)) (λs h=>aa h);dsimp only;cases e:aA m.nodes[i].kids p with
 |none=>simp only[e,IF]|some z=>simp only[e,aU]
theorem ahb(m:dX)(hr:qt m){x:Nd}(hx:x∈m.nodes)(role:bE):T (F28 N (m,x.iD,role)) λr=>r=iI m x role:=by
 have hm:=hr.rd.ok;have g4:=hm.len;have hs:=hr.rd.sorted;have Ar:=hr.rd.ids;have Qb:∀id,yJ id->T (L9 N (m,id)) λr=>r=Jk m id:=λid nP=>Zl hN m hs Ar (by omega) id nP;unfold F28;refine an (We hN m hm) λy hy=>?_;rw[hr.right]at hy;subst hy;have ET:=Ar x hx;refine an (Qb x.iD ⟨by omega,by omega⟩) λz hz=>?_;obtain⟨i,hi,rfl⟩:=fR hx;have:z=(i:Int):=by rw[hz];exact gQ hs hi
 subst this;refine af (λh=>by simp at h;omega) λ_=>an (Qb m.nodes[i].iD ⟨by omega,by omega⟩) λz hz=>?_;have:z=(i:Int):=by rw[hz];exact gQ hs hi
 subst this;unfold F57;have e1:aA m.nodes (i:Int)=some m.nodes[i]:=ec hi;simp only[e1,aU];refine an (aj (λs=>s.1=iI m m.nodes[i] role) (λJ hJ=>Qm hN hr (A:=λid=>L9 N (m,id)) Qb hx role (λrec out p=>rfl) (hJ _ rfl)) (λs h=>aa h)) λw hw=>aa hw
end
def iP(t:Option Nat)(own:List bT)(h:Hp):Prop:=(t=none/\own=[])∨(t=some 0/\gA own/\Good own h)
def wU(l:List cg)(role:bE):cg×Bool:=match l.find? λz=>z.role==role with
 |some z=>(z,true)|none=>(cg.mk [] [] 0 0,false)
def bt(own:List bT)(m:dX)(parent:Int)(role:bE):cg×Bool:=if parent=0 then(cg.mk [] [] 0 0,role==[])else match nodeAt m parent with
 |none=>(cg.mk [] [] 0 0,false)|some x=>wU (cU own x.ab).1.kids role
def cy(own:List bT)(kd:cg)(o6:List bE):List nb×Bool:=Oc ((cD own).filter (fq own kd.ab o6))
theorem gA.nil:gA []:=⟨by simp,by simp⟩
theorem iP.ls {own:List bT} {h:Hp} (ht:iP t own h):gA own/\(cs own).length<=128/\((cs own).map (·.name)).Nodup:=by
 rcases ht with⟨_,rfl⟩|⟨_,h1,h2⟩
 ·exact ⟨gA.nil,by simp[cs],by simp[cs]⟩
 ·exact ⟨h1,h2.len,h2.nodup⟩
theorem yO{own:List bT}(hl:gA own)(s:bE):(cU own s).1.kids.length<=136314880:=by
 unfold cU;cases h:gq own s with
 |none=>simp[noC]|some c=>exact (uJ own hl s c h).2.1
section
variable{N:Nat}(hN:1073741824<=N)
include hN
theorem ahc(t:Option Nat)(own:List bT)(s:bE)(h:Hp)(ht:iP t own h):T (F55 N (t,s) h) λr=>r=(cU own s,h):=by
 rcases ht with⟨rfl,rfl⟩|⟨rfl,h1,h2⟩
 ·exact aa rfl
 ·exact agQ hN own h1 s h h2
theorem aaC(t:Option Nat)(own:List bT)(kd:cg)(o6:List bE)(hb:o6.length<=1048576)(i0:List (Option (List nb)))(h:Hp)(ht:iP t own h)(hi:h.ja=i0):T (Ma N (t,kd,o6) h) λr=>r.1=cy own kd o6/\iP t own r.2/\r.2.ja=i0:=by
 rcases ht with⟨rfl,rfl⟩|⟨rfl,h1,h2⟩
 ·have hn:cD []=[]:=by simp[cD,cs,iC]
  refine aa ⟨?_,.inl ⟨rfl,rfl⟩,hi⟩;simp only[cy,hn,List.filter_nil];rfl
 ·exact dG (amd hN own h1 kd o6 hb i0 h ⟨h2,hi⟩) λr ⟨q1,q2,q3⟩=>⟨q1,.inr ⟨rfl,h1,q2⟩,q3⟩
theorem Qn{l:List cg}(hl:l.length<=136314880)(role:bE){yes:cg->Option β}{J:Unit×Unit->Option β}
  (hf:∀rec p,f rec (p,())=bif decide (p<(l.length:Int))then(aA l p).bind λz=>bif z.role==role then yes z else rec (IntKind.i64.wrap (p+1),())else J ((),()))
  (h1:∀z,l.find? (λz=>z.role==role)=some z->T (yes z) P) (h2:l.find? (λz=>z.role==role)=none->T (J ((),())) P):T (aE f N (0,())) P:=by
 refine aG (λs=>0<=s.1/\s.1<=l.length/\l.find? (λz=>z.role==role)=(l.drop s.1.toNat).find? λz=>z.role==role) (λs=>(l.length-s.1).toNat) ⟨by simp,by simp,by simp⟩ (by dsimp only;omega) ?_;rintro rec ⟨p,u⟩ ⟨k1,k2,k3⟩ aH;dsimp only at k1 k2 k3;rw[hf];refine af (λhb=>?_) (λhb=>?_)
 ·simp only[az]at hb;refine aw k1 hb λx hx bV=>?_;rw[Hd bV]at k3;refine af (λe=>?_) (λe=>?_)
  ·rw[ap e]at k3;exact h1 x k3
  ·rw[ai (by simp[e])]at k3;refine aH _ ⟨?_,?_,?_⟩ ?_<;>dsimp only<;>rw[bq (by omega) (by omega)]
   ·omega
   ·omega
   ·rw[k3,show(p+1).toNat=p.toNat+1 by omega]
   ·omega
 ·simp only[bz,fI]at hb;refine h2 ?_;rw[k3,He (by omega)];rfl
theorem acT(t:Option Nat)(own:List bT)(m:dX)(hr:qt m)(parent:Int)(hp:yJ parent)(lq:parent≠0->∃x,nodeAt m parent=some x)(role:bE)(h:Hp)(ht:iP t own h):T (F26 N (t,m,parent,role) h) λr=>r=(bt own m parent role,h):=by
 unfold F26;refine af (λe=>aa ?_) λe=>?_
 ·have e:parent=0:=by simpa using e
  simp only[bt,e,bp]
 ·have e:¬parent=0:=by simpa using e
  obtain⟨x,hx⟩:=lq e;refine an (acS hN m hr.rd.ok parent hp) λy hy=>?_;have hy:y=(x,true):=by rw[hy];simp only[findF,hr.right,bp,hx]
  subst hy;refine an (ahc hN t own x.ab h ht) λz hz=>?_;subst hz;have yP:bt own m parent role=wU (cU own x.ab).1.kids role:=by simp only[bt,ai e,hx]
  rw[yP];refine aj (λ_=>(cU own x.ab).1.kids.find? (λz=>z.role==role)=none) (λJ hJ=>?_) (λ_ hn=>aa (by simp only[wU,hn]));exact Qn hN (yO ht.ls.1 _) role (λ_ _=>rfl) (λz hz=>aa (by simp only[wU,hz])) (λhn=>hJ _ hn)
theorem acU(own:List bT)(hl:gA own)(m:dX)(hr:qt m)(parent:Int)(lq:parent≠0->∃x,nodeAt m parent=some x)(role:bE):T (F19 N (own,m,parent,role)) λr=>r=bt own m parent role:=by
 have g4:=hr.rd.ok.len;unfold F19;refine af (λe=>aa ?_) λe=>?_
 ·have e:parent=0:=by simpa using e
  simp only[bt,e,bp]
 ·have e:¬parent=0:=by simpa using e
  obtain⟨x,hx⟩:=lq e;obtain⟨qD,ET⟩:=gu hx;obtain⟨i,hi,rfl⟩:=fR qD;refine an (FI hN m hr.rd.sorted (by omega) parent) λy hy=>?_;have:y=(i:Int):=by rw[hy,<-ET];exact gQ hr.rd.sorted hi
  subst this;have e1:aA m.nodes (i:Int)=some m.nodes[i]:=ec hi;simp only[e1,aU];refine an (agW hN own hl _) λz hz=>?_;subst hz;have yP:bt own m parent role=wU (cU own m.nodes[i].ab).1.kids role:=by simp only[bt,ai e,hx]
  rw[yP];refine aj (λ_=>(cU own m.nodes[i].ab).1.kids.find? (λz=>z.role==role)=none) (λJ hJ=>?_) (λ_ hn=>aa (by simp only[wU,hn]));refine Qn hN (yO hl _) role (yes:=λz=>some (z,true)) (λrec p=>?_) (λz hz=>aa (by simp only[wU,hz])) (λhn=>hJ _ hn);dsimp only;cases e:aA (cU own m.nodes[i].ab).1.kids p with
  |none=>simp only[e,IF]|some z=>simp only[e,aU]
end
theorem Hl(m:dX):∀(f:Nat)(x:Nd),iu m f x<=f
 |0,_=>aP _|f+1,x=>by
  unfold iu;split
  ·omega
  ·split
   ·omega
   ·rename_i p _;have:=Hl m f p;omega
def ug(m:dX)(parent:Int)(role:bE)(kd:cg):Bool:=(decide (4096<=m.nodes.length)||decide (1048576<m.next))||(!(parent==0)&&(match nodeAt m parent with
 |none=>false|some x=>decide (64<=iu m 64 x)||(kd.max==1&&!(iI m x role).isEmpty)))
def dz(own:List bT)(m:dX)(parent:Int)(role:bE):List nb×Bool×Int:=
 if dU m=false then([],false,29)else if parent≠0/\nodeAt m parent=none then([],false,20)else
 if(bt own m parent role).2=false then([],false,62)else if ug m parent role (bt own m parent role).1=true then([],false,0)
 else((cy own (bt own m parent role).1 []).1,(cy own (bt own m parent role).1 []).2,0)
theorem ny{own:List bT}{parent:Int}{role:bE}(h1:dU m=true)(h2:parent≠0->∃x,nodeAt m parent=some x)(h3:(bt own m parent role).2=true):dz own m parent role=if ug m parent role (bt own m parent role).1=true then([],false,0)else((cy own (bt own m parent role).1 []).1,(cy own (bt own m parent role).1 []).2,0):=by
 have:¬(parent≠0/\nodeAt m parent=none):=λ⟨a,b⟩=>by obtain ⟨x,hx⟩:=h2 a;rw[b]at hx;cases hx
 unfold dz;rw[h1,h3,ai (by simp),ai this,ai (by simp)]
section
variable{N:Nat}(hN:1073741824<=N)
include hN
theorem tF9(t:Option Nat)(own:List bT)(m:dX)(hm:se m)(parent:Int)(hp:yJ parent)(role:bE)(i0:List (Option (List nb)))(h:Hp)(ht:iP t own h)(hi:h.ja=i0):T (F9 N (t,m,parent,role) h) λr=>r.1=dz own m parent role/\iP t own r.2/\r.2.ja=i0:=by
 have g4:=hm.len;unfold F9;refine an (We hN m hm) λy hy=>?_;cases hr:dU m with
 |false=>rw[hr]at hy;subst hy;exact aa ⟨by unfold dz;rw[ap hr],ht,hi⟩|true=>
  rw[hr]at hy;subst hy;have hR:=Jp hm hr;refine an (acS hN m hm parent hp) λy hy=>?_;have Jq:∀kd,T ((N8 N (t,kd,[])).bind λy=>(Ma N y h).bind λz=>some ((z.1.1,z.1.2,(0:Int)),z.2)) λr=>r.1=((cy own kd []).1,(cy own kd []).2,0)/\iP t own r.2/\r.2.ja=i0:=λkd=>an (o:=N8 N (t,kd,[])) (Q:=λy=>y=(t,kd,[])) ⟨_,rfl,rfl⟩ λy hy=>by subst hy;exact an (aaC hN t own kd [] (by simp) i0 h ht hi) λz ⟨q1,q2,q3⟩=>aa ⟨by rw[q1],q2,q3⟩
  have stop:dz own m parent role=([],false,0)->T (some ((([]:List nb),false,(0:Int)),h)) λr=>r.1=dz own m parent role/\iP t own r.2/\r.2.ja=i0:=λe=>aa ⟨e.symm,ht,hi⟩;have go:dz own m parent role=((cy own (bt own m parent role).1 []).1,(cy own (bt own m parent role).1 []).2,0)->T ((N8 N (t,(bt own m parent role).1,[])).bind λy=>(Ma N y h).bind λz=>some ((z.1.1,z.1.2,(0:Int)),z.2)) λr=>r.1=dz own m parent role/\iP t own r.2/\r.2.ja=i0:=λe=>by rw[e];exact Jq _
  by_cases h0:parent=0
  ·have e0:(parent==0)=true:=by simpa using h0
   simp only[e0,fG,bc];refine an (acT hN t own m hR parent hp (λe=>(e h0).elim) role h ht) λz hz=>?_;subst hz;refine af (λhk=>aa ⟨?_,ht,hi⟩) λhk=>?_
   ·have hk:(bt own m parent role).2=false:=by simpa using hk
    unfold dz;rw[hr,ai (by simp),ai (by simp[h0]),ap hk]
   ·have hk:(bt own m parent role).2=true:=by simpa using hk
    have hs:=ny (role:=role) hr (λe=>(e h0).elim) hk;have hf:ug m parent role (bt own m parent role).1=(decide (4096<=m.nodes.length)||decide (1048576<m.next)):=by unfold ug;rw[e0];simp
    refine af (λh1=>stop ?_) λh1=>af (λh2=>stop ?_) λh2=>go ?_
    ·have:4096<=m.nodes.length:=by simp only[fc]at h1;omega
     rw[hs,ap (by rw[hf];simp[this])]
    ·rw[hs,ap (by rw[hf,h2];simp)]
    ·have:¬4096<=m.nodes.length:=by simp only[ma,ne_eq]at h1;omega
     rw[hs,ai (by rw[hf,h2];simp[this])]
  ·have e0:(parent==0)=false:=by simpa using h0
   simp only[e0,tq,ba];cases lq:nodeAt m parent with
   |none=>
    have hy:y=(Jn,false):=by rw[hy];simp only[findF,hr,bp,lq]
    subst hy;refine aa ⟨?_,ht,hi⟩;unfold dz;rw[hr,ai (by simp),ap ⟨h0,lq⟩]
   |some x=>
    have hy:y=(x,true):=by rw[hy];simp only[findF,hr,bp,lq]
    subst hy;obtain⟨qD,ET⟩:=gu lq;simp only[fG,bc];refine an (acT hN t own m hR parent hp (λ_=>⟨x,lq⟩) role h ht) λz hz=>?_;subst hz;refine af (λhk=>aa ⟨?_,ht,hi⟩) λhk=>?_
    ·have hk:(bt own m parent role).2=false:=by simpa using hk
     unfold dz;rw[hr,ai (by simp),ai (by rw[lq];simp),ap hk]
    ·have hk:(bt own m parent role).2=true:=by simpa using hk
     have hs:=ny (role:=role) hr (λ_=>⟨x,lq⟩) hk;have hf:ug m parent role (bt own m parent role).1=((decide (4096<=m.nodes.length)||decide (1048576<m.next))||(decide (64<=iu m 64 x)||((bt own m parent role).1.max==1&&!(iI m x role).isEmpty))):=by unfold ug;rw[e0,lq];simp
     have hd:=Hl m 64 x;have t27:=amt hN m hR qD;have t28:=ahb hN m hR qD role;rw[ET]at t27 t28;refine an t27 λd fF=>?_;refine af (λh1=>stop ?_) λh1=>?_
     ·have:64<=iu m 64 x:=by simp only[fc]at h1;omega
      rw[hs,ap (by rw[hf];simp[this])]
     ·have h1:¬64<=iu m 64 x:=by simp only[ma,ne_eq]at h1;omega
      refine af (λiE=>an t28 λks QX=>af (λh3=>stop ?_) λh3=>af (λh4=>stop ?_) λh4=>af (λh5=>stop ?_) λh5=>go ?_) λiE=>af (λh4=>stop ?_) λh4=>af (λh5=>stop ?_) λh5=>go ?_
      ·subst QX;have:(iI m x role).isEmpty=false:=by
        cases XY:iI m x role with
        |nil=>rw[XY]at h3;simp at h3|cons=>rfl
       rw[hs,ap (by rw[hf,iE,this];simp)]
      ·have:4096<=m.nodes.length:=by simp only[fc]at h4;omega
       rw[hs,ap (by rw[hf];simp[this])]
      ·rw[hs,ap (by rw[hf,h5];simp)]
      ·subst QX;have h3':(iI m x role).isEmpty=true:=by
        cases XY:iI m x role with
        |nil=>rfl|cons a l=>rw[XY]at h3;simp at h3
       have:¬4096<=m.nodes.length:=by simp only[ma,ne_eq]at h4;omega
       rw[hs,ai (by rw[hf,h5,iE,h3',mZ this,mZ h1];simp)]
      ·have:4096<=m.nodes.length:=by simp only[fc]at h4;omega
       rw[hs,ap (by rw[hf];simp[this])]
      ·rw[hs,ap (by rw[hf,h5];simp)]
      ·have:¬4096<=m.nodes.length:=by simp only[ma,ne_eq]at h4;omega
       rw[hs,ai (by rw[hf,h5,iE,mZ this,mZ h1];simp)]
theorem Qo(t:Option Nat)(own:List bT)(h:Hp)(ht:iP t own h)(kd:cg)(o6:bE){k:List nb×Bool->Option β}(hk:T (k (cy own kd [o6])) P):T ((VF N (own,kd,o6)).bind λy=>(VE N y).bind k) P:=by
 obtain⟨h1,h2,h3⟩:=ht.ls;refine an (amg hN own h1 h2 h3 kd o6) λy hy=>an (amh hN y) λz hz=>?_;subst hy;have:z=cy own kd [o6]:=by rw[hz];unfold cy Oc;rw[pj,cM]
 rw[this];exact hk
omit hN in
theorem Wf{own:List bT}{h:Hp}(ht:iP t own h)(kd:cg):cy own kd [[]]=cy own kd []:=by
 rcases ht with⟨_,rfl⟩|⟨_,h1,h2⟩
 ·have hn:cD []=[]:=by simp[cD,cs,iC]
  simp only[cy,hn,List.filter_nil]
 ·unfold cy;rw[LN h2]
theorem tF7(t:Option Nat)(own:List bT)(m:dX)(hm:se m)(parent:Int)(role:bE)(h:Hp)(ht:iP t own h):T (F7 N (own,m,parent,role)) λr=>r=dz own m parent role:=by
 have g4:=hm.len;unfold F7;refine an (Zm hN m hm) λy hy=>?_;subst hy;cases hr:dU m with
 |false=>exact aa (by unfold dz;rw[ap hr])|true=>
  have hR:=Jp hm hr;simp only[fG,bc];have stop:dz own m parent role=([],false,0)->T (some ((([]:List nb),false,(0:Int)))) λr=>r=dz own m parent role:=λe=>aa e.symm;have go:dz own m parent role=((cy own (bt own m parent role).1 []).1,(cy own (bt own m parent role).1 []).2,0)->T ((VF N (own,(bt own m parent role).1,[])).bind λy=>(VE N y).bind λz=>some (z.1,z.2,(0:Int))) λr=>r=dz own m parent role:=λe=>Qo hN t own h ht _ [] (k:=λz=>some (z.1,z.2,(0:Int))) (by rw[Wf ht,e];exact aa rfl);by_cases h0:parent=0
  ·have e0:(parent==0)=true:=by simpa using h0
   simp only[e0,fG,bc];refine an (acU hN own ht.ls.1 m hR parent (λe=>(e h0).elim) role) λz hz=>?_;subst hz;refine af (λhk=>aa ?_) λhk=>?_
   ·have hk:(bt own m parent role).2=false:=by simpa using hk
    unfold dz;rw[hr,ai (by simp),ai (by simp[h0]),ap hk]
   ·have hk:(bt own m parent role).2=true:=by simpa using hk
    have hs:=ny (role:=role) hr (λe=>(e h0).elim) hk;have hf:ug m parent role (bt own m parent role).1=(decide (4096<=m.nodes.length)||decide (1048576<m.next)):=by unfold ug;rw[e0];simp
    refine af (λh1=>stop ?_) λh1=>af (λh2=>stop ?_) λh2=>?_
    ·have:4096<=m.nodes.length:=by simp only[az]at h1;omega
     rw[hs,ap (by rw[hf];simp[this])]
    ·rw[hs,ap (by rw[hf,h2];simp)]
    ·have:¬4096<=m.nodes.length:=by simp only[bz]at h1;omega
     have e:=hs.trans (ai (by rw[hf,h2];simp[this]));exact aj (λ_=>True) (λJ hJ=>hJ _ trivial) λ_ _=>go e
  ·have e0:(parent==0)=false:=by simpa using h0
   simp only[e0,tq,ba];refine an (FI hN m hR.rd.sorted (by omega) parent) λy hy=>?_;subst hy;cases lq:nodeAt m parent with
   |none=>
    have pW:∀n∈m.nodes,n.iD≠parent:=λn hn e=>by obtain⟨i,hi,rfl⟩:=fR hn;rw[<-e,lm hR.rd.sorted hi]at lq;cases lq
    rw[uc pW];refine af (λ_=>aa ?_) λh=>by simp at h
    unfold dz;rw[hr,ai (by simp),ap ⟨h0,lq⟩]
   |some x=>
    obtain⟨qD,ET⟩:=gu lq;have Oq:0<=Jk m parent:=by obtain⟨i,hi,rfl⟩:=fR qD;rw[<-ET,gQ hR.rd.sorted hi];omega
    refine af (λh=>by simp only[az]at h;omega) λ_=>?_;refine an (acU hN own ht.ls.1 m hR parent (λ_=>⟨x,lq⟩) role) λz hz=>?_;subst hz;refine af (λhk=>aa ?_) λhk=>?_
    ·have hk:(bt own m parent role).2=false:=by simpa using hk
     unfold dz;rw[hr,ai (by simp),ai (by rw[lq];simp),ap hk]
    ·have hk:(bt own m parent role).2=true:=by simpa using hk
     have hs:=ny (role:=role) hr (λ_=>⟨x,lq⟩) hk;have hf:ug m parent role (bt own m parent role).1=((decide (4096<=m.nodes.length)||decide (1048576<m.next))||(decide (64<=iu m 64 x)||((bt own m parent role).1.max==1&&!(iI m x role).isEmpty))):=by unfold ug;rw[e0,lq];simp
     have t20:=ams hN m hR qD;have t21:=aha hN m hR qD role;rw[ET]at t20 t21;refine af (λh1=>stop ?_) λh1=>af (λh2=>stop ?_) λh2=>?_
     ·have:4096<=m.nodes.length:=by simp only[az]at h1;omega
      rw[hs,ap (by rw[hf];simp[this])]
     ·rw[hs,ap (by rw[hf,h2];simp)]
     ·have h1:¬4096<=m.nodes.length:=by simp only[bz]at h1;omega
      refine aj (λ_=>ug m parent role (bt own m parent role).1=false) (λJ hJ=>an t20 λd hd=>?_) λ_ hnf=>go (hs.trans (ai (by rw[hnf];simp)));refine af (λh3=>stop ?_) λh3=>?_
      ·have:64<=iu m 64 x:=by simp only[az]at h3;omega
       rw[hs,ap (by rw[hf];simp[this])]
      ·have h3:¬64<=iu m 64 x:=by simp only[bz]at h3;omega
       refine af (λiE=>an t21 λks QX=>af (λh4=>stop ?_) λh4=>hJ _ ?_) λiE=>hJ _ ?_
       ·subst QX;have:(iI m x role).isEmpty=false:=by
         cases XY:iI m x role with
         |nil=>rw[XY]at h4;simp at h4|cons=>rfl
        rw[hs,ap (by rw[hf,iE,this];simp)]
       ·subst QX;have h4':(iI m x role).isEmpty=true:=by
         cases XY:iI m x role with
         |nil=>rfl|cons a l=>rw[XY]at h4;simp at h4
        rw[hf,h2,iE,h4',mZ h1,mZ h3];rfl
       ·rw[hf,h2,iE,mZ h1,mZ h3];rfl
def cz(own:List bT)(m:dX)(id:Int):List nb×Bool×Int:=
 if dU m=false then([],false,29)else match nodeAt m id with
 |none=>([],false,20)|some x=>if(bt own m x.parent x.role).2=false then([],false,62)else if(!(x.parent==0)&&((bt own m x.parent x.role).1.max==1&&(match nodeAt m x.parent with
   |none=>false|some p=>decide (1<(iI m p x.role).length))))=true then([],false,0)
  else((cy own (bt own m x.parent x.role).1 [x.ab]).1,(cy own (bt own m x.parent x.role).1 [x.ab]).2,0)
omit hN in
theorem uN(hR:qt m){x:Nd}(hx:x∈m.nodes)(hp:x.parent≠0):∃p,nodeAt m x.parent=some p:=by
 have:=hR.below x hx;unfold ef at this;rw[ai hp]at this;cases h:nodeAt m x.parent with
 |none=>rw[h]at this;cases this
 |some p=>exact ⟨p,rfl⟩
theorem amu(t:Option Nat)(own:List bT)(m:dX)(hm:se m)(id:Int)(nP:yJ id)(i0:List (Option (List nb)))(h:Hp)(ht:iP t own h)(hi:h.ja=i0):T (F10 N (t,m,id) h) λr=>r.1=cz own m id/\iP t own r.2/\r.2.ja=i0:=by
 have g4:=hm.len;unfold F10;refine an (We hN m hm) λy hy=>?_;cases hr:dU m with
 |false=>rw[hr]at hy;subst hy;exact aa ⟨by unfold cz;rw[ap hr],ht,hi⟩|true=>
  rw[hr]at hy;subst hy;have hR:=Jp hm hr;refine an (acS hN m hm id nP) λy hy=>?_;cases lq:nodeAt m id with
  |none=>
   have hy:y=(Jn,false):=by rw[hy];simp only[findF,hr,bp,lq]
   subst hy;exact aa ⟨by unfold cz;rw[hr,ai (by simp),lq],ht,hi⟩
  |some x=>
   have hy:y=(x,true):=by rw[hy];simp only[findF,hr,bp,lq]
   subst hy;obtain⟨qD,ET⟩:=gu lq;have hxd:=hm.node x qD;simp only[fG,bc];have yP:cz own m id=if(bt own m x.parent x.role).2=false then([],false,62)else if(!(x.parent==0)&&((bt own m x.parent x.role).1.max==1&&(match nodeAt m x.parent with
     |none=>false|some p=>decide (1<(iI m p x.role).length))))=true then([],false,0)
    else((cy own (bt own m x.parent x.role).1 [x.ab]).1,(cy own (bt own m x.parent x.role).1 [x.ab]).2,0):=by
    unfold cz;rw[hr,ai (by simp),lq]
   refine an (acT hN t own m hR x.parent hxd.parent (λe=>uN hR qD e) x.role h ht) λz hz=>?_;subst hz;have Jq:cz own m id=((cy own (bt own m x.parent x.role).1 [x.ab]).1,(cy own (bt own m x.parent x.role).1 [x.ab]).2,0)->T ((N8 N (t,(bt own m x.parent x.role).1,[x.ab])).bind λy=>(Ma N y h).bind λz=>some ((z.1.1,z.1.2,(0:Int)),z.2)) λr=>r.1=cz own m id/\iP t own r.2/\r.2.ja=i0:=λe=>an (o:=N8 N (t,(bt own m x.parent x.role).1,[x.ab])) (Q:=λy=>y=(t,(bt own m x.parent x.role).1,[x.ab])) ⟨_,rfl,rfl⟩ λy hy=>by subst hy;exact an (aaC hN t own _ [x.ab] (by simp) i0 h ht hi) λz ⟨q1,q2,q3⟩=>aa ⟨by rw[q1,e],q2,q3⟩
   refine af (λhk=>aa ⟨?_,ht,hi⟩) λhk=>?_
   ·rw[yP,ap (by simpa using hk)]
   ·have hk:(bt own m x.parent x.role).2=true:=by simpa using hk
    rw[ai (by rw[hk];simp)]at yP;refine af (λh0=>?_) λh0=>Jq (yP.trans (ai (by rw[h0];simp)));refine af (λiE=>?_) λiE=>Jq (yP.trans (ai (by rw[iE];simp)));have uq:x.parent≠0:=by simpa using h0
    obtain⟨p,hpa⟩:=uN hR qD uq;obtain⟨hpm,acV⟩:=gu hpa;have t28:=ahb hN m hR hpm x.role;rw[acV]at t28;refine an t28 λks QX=>?_;subst QX;rw[h0,iE,hpa]at yP;refine af (λh3=>aa ⟨?_,ht,hi⟩) λh3=>Jq (yP.trans (ai ?_))
    ·simp only[az]at h3;rw[yP,ap (by simp;omega)]
    ·simp only[bz]at h3;simp;omega
theorem tF8(t:Option Nat)(own:List bT)(m:dX)(hm:se m)(id:Int)(h:Hp)(ht:iP t own h):T (F8 N (own,m,id)) λr=>r=cz own m id:=by
 have g4:=hm.len;unfold F8;refine an (Zm hN m hm) λy hy=>?_;subst hy;cases hr:dU m with
 |false=>exact aa (by unfold cz;rw[ap hr])|true=>
  have hR:=Jp hm hr;simp only[fG,bc];refine an (FI hN m hR.rd.sorted (by omega) id) λy hy=>?_;subst hy;cases lq:nodeAt m id with
  |none=>
   have pW:∀n∈m.nodes,n.iD≠id:=λn hn e=>by obtain⟨i,hi,rfl⟩:=fR hn;rw[<-e,lm hR.rd.sorted hi]at lq;cases lq
   rw[uc pW];exact af (λ_=>aa (by unfold cz;rw[hr,ai (by simp),lq])) λh=>by simp at h
  |some x=>
   obtain⟨qD,ET⟩:=gu lq;obtain⟨i,hi,hxi⟩:=fR qD;have lv:Jk m id=(i:Int):=by rw[<-ET,<-hxi];exact gQ hR.rd.sorted hi
   have e1:aA m.nodes (i:Int)=some x:=by rw[ec hi,hxi]
   rw[lv];refine af (λh=>by simp at h;omega) λ_=>?_;simp only[e1,aU];have yP:cz own m id=if(bt own m x.parent x.role).2=false then([],false,62)else if(!(x.parent==0)&&((bt own m x.parent x.role).1.max==1&&(match nodeAt m x.parent with
     |none=>false|some p=>decide (1<(iI m p x.role).length))))=true then([],false,0)
    else((cy own (bt own m x.parent x.role).1 [x.ab]).1,(cy own (bt own m x.parent x.role).1 [x.ab]).2,0):=by
    unfold cz;rw[hr,ai (by simp),lq]
   refine an (acU hN own ht.ls.1 m hR x.parent (λe=>uN hR qD e) x.role) λz hz=>?_;subst hz;have Jq:cz own m id=((cy own (bt own m x.parent x.role).1 [x.ab]).1,(cy own (bt own m x.parent x.role).1 [x.ab]).2,0)->T ((VF N (own,(bt own m x.parent x.role).1,x.ab)).bind λy=>(VE N y).bind λz=>some (z.1,z.2,(0:Int))) λr=>r=cz own m id:=λe=>Qo hN t own h ht _ x.ab (k:=λz=>some (z.1,z.2,(0:Int))) (by rw[e];exact aa rfl);refine af (λhk=>aa ?_) λhk=>?_
   ·rw[yP,ap (by simpa using hk)]
   ·have hk:(bt own m x.parent x.role).2=true:=by simpa using hk
    rw[ai (by rw[hk];simp)]at yP;refine af (λh0=>?_) λh0=>Jq (yP.trans (ai (by rw[h0];simp)));refine af (λiE=>?_) λiE=>Jq (yP.trans (ai (by rw[iE];simp)));have uq:x.parent≠0:=by simpa using h0
    obtain⟨p,hpa⟩:=uN hR qD uq;obtain⟨hpm,acV⟩:=gu hpa;have t21:=aha hN m hR hpm x.role;rw[acV]at t21;refine an t21 λks QX=>?_;subst QX;rw[h0,iE,hpa]at yP;refine af (λh3=>aa ?_) λh3=>Jq (yP.trans (ai ?_))
    ·simp only[az]at h3;rw[yP,ap (by simp;omega)]
    ·simp only[bz]at h3;simp;omega
end
end Go.Proofs.Mo
