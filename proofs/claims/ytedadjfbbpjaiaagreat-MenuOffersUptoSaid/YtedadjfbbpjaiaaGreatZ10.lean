import Derived.Laws.IdiomRangeMap
import Derived.Test.YtedadjfbbpjaiaaGreatZ9
set_option linter.all false
namespace Go.X
open Go Go.Ev
variable{j d i t tick:Nat}{o:Oper}{aB:Array Bool}{f:FuncId}{fn:Func}{c:Code}{ps:List Ty}{rs:List RK}{cG:Option (TypeId×Ty)}{esc:List (Nat×Nat)}{hint:Hint}
section
variable{β:Type}
def gp(D wr:Nat->Bool)(v:Nat->β)(b0:β):Nat->β
 |0=>b0|j+1=>bif D j&&wr j then v j else gp D wr v b0 j
variable{D D' wr:Nat->Bool}{v:Nat->β}{b0:β}
theorem gN:∀{N:Nat},(∀i,i<N->wr i=true->D i=D' i)->gp D wr v b0 N=gp D' wr v b0 N
 |0,_=>rfl|j+1,h=>by
  simp only[gp];rw[gN (N:=j) λi hi hw=>h i (by omega) hw];cases hw:wr j with
  |false=>simp|true=>rw[h j (by omega) hw]
theorem yi{j:Nat}:∀{N:Nat},j<=N->gp (λi=>decide (i<j)) wr v b0 N=gp (λ_=>true) wr v b0 j
 |0,h=>by
  have:j=0:=by omega
  subst this;rfl
 |N+1,h=>by
  by_cases hj:j=N+1
  ·subst hj;exact gN λi hi _=>by simp[hi]
  ·simp only[gp];have:decide (N<j)=false:=by simp;omega
   rw[this];simp only[Bool.false_and,bc];exact yi (by omega)
theorem uF{j:Nat}(hD:∀i,i≠j->D' i=D i)(Ss:D' j=true):∀{N:Nat},j<N->(wr j=true->∀i,j<i->i<N->D i=true->wr i=true->False)->gp D' wr v b0 N=if wr j=true then v j else gp D wr v b0 N
 |N+1,hj,hn=>by
  by_cases e:j=N
  ·subst e;simp only[gp,Ss,nO];cases hw:wr j with
   |true=>simp|false=>simp;exact gN λi hi _=>hD i (by omega)
  ·have ih:=uF hD Ss (N:=N) (by omega) λhw i h1 h2=>hn hw i h1 (by omega);simp only[gp,hD N (c5 e)];cases hDN:D N with
   |false=>simpa using ih|true=>
    cases hwN:wr N with
    |false=>simpa using ih|true=>
     cases hw:wr j with
     |false=>simp|true=>exact (hn hw N (by omega) (by omega) hDN hwN).elim
theorem lc:∀{N:Nat},gp D wr v b0 N=b0∨∃i,i<N/\D i=true/\wr i=true/\gp D wr v b0 N=v i
 |0=>.inl rfl|N+1=>by
  simp only[gp];cases h:D N&&wr N with
  |true=>simp only[aD]at h;exact .inr ⟨N,by omega,h.1,h.2,rfl⟩|false=>
   simp only[bc];rcases lc (N:=N)with h|⟨i,h1,h2⟩
   ·exact .inl h
   ·exact .inr ⟨i,by omega,h2⟩
end
structure Rec(C:Nat->Type)where
 dst:Option Nat
 ds:List Nat
 f:Fp
 s1:S C
 lost:List Nat
def Rec.val {C:Nat->Type} (c:Rec C) (t:Nat):R C:=if c.dst=some t then c.s1.look t else .none
section
variable{U:cm}{T:da U.C}
def S.Uq (s:S U.C) (c:Rec U.C):S U.C:=
 {r:=match c.dst with
   |some d=>(d,0,c.s1.look d)::lT 0 c.lost s.r|none=>lT 0 c.lost s.r
  b:=bif c.f.w then c.s1.b++uy s.b c.f.bs else s.b,tick:=s.tick,h:=bif c.f.w then tC U s.h c.s1.h c.f.ks else s.h,hv:=0,m:=s.m}
def sig(rc:Nat->Rec U.C)(D:Nat->Bool)(s0:S U.C):Nat->S U.C
 |0=>s0|j+1=>bif D j then(sig rc D s0 j).Uq (rc j)else sig rc D s0 j
variable{rc:Nat->Rec U.C}{D:Nat->Bool}{s0:S U.C}
theorem D6:∀N,(sig rc D s0 N).tick=s0.tick
 |0=>rfl|N+1=>by
  simp only[sig];cases D N with
  |true=>exact D6 N|false=>exact D6 N
theorem Ur:∀N,(sig rc D s0 N).m=s0.m
 |0=>rfl|N+1=>by
  simp only[sig];cases D N with
  |true=>exact Ur N|false=>exact Ur N
def xa(rc:Nat->Rec U.C)(t i:Nat):Bool:=decide ((rc i).dst=some t)||iM t (rc i).lost
theorem fp{C:Nat->Type}(tick:Nat):∀(ts:List Nat)(l:List (Nat×Nat×R C))(t:Nat),ao (lT tick ts l) t=if t∈ts then some (tick,.none)else ao l t
 |[],l,t=>by simp[lT]|t'::ts,l,t=>by
  simp only[lT,aI];by_cases e:t'=t
  ·subst e;simp
  ·rw[ai e,fp tick ts l t];simp[c5 e]
def D7(rc:Nat->Rec U.C)(d i:Nat):Bool:=(rc i).f.w&&iM d (rc i).f.bs
def KV(rc:Nat->Rec U.C)(k i:Nat):Bool:=(rc i).f.w&&iM k (rc i).f.ks
theorem KW(t:Nat):∀N,(sig rc D s0 N).look t=gp D (xa rc t) (λi=>(rc i).val t) (s0.look t) N
 |0=>rfl|N+1=>by
  simp only[sig,gp];rw[<-KW t N];cases hD:D N with
  |false=>simp|true=>
   simp only[ba,nO];cases hd:(rc N).dst with
   |none=>
    by_cases hl:t∈(rc N).lost
    ·have:xa rc t N=true:=by simp[xa,bU.2 hl]
     rw[this];unfold S.look S.Uq Rec.val;simp[hd,fp,hl]
    ·have E4:iM t (rc N).lost=false:=by
      cases hm:iM t (rc N).lost with
      |false=>rfl|true=>exact (hl (bU.1 hm)).elim
     have:xa rc t N=false:=by simp[xa,hd,E4]
     rw[this];simp only[bc];unfold S.look S.Uq;simp[hd,fp,hl]
   |some d=>
    by_cases e:d=t
    ·subst e;have:xa rc d N=true:=by simp[xa,hd]
     rw[this];unfold S.look S.Uq Rec.val;simp only[hd,aI,bp,ba]
    ·by_cases hl:t∈(rc N).lost
     ·have:xa rc t N=true:=by simp[xa,bU.2 hl]
      rw[this];unfold S.look S.Uq Rec.val;simp[hd,aI,e,fp,hl]
     ·have E4:iM t (rc N).lost=false:=by
       cases hm:iM t (rc N).lost with
       |false=>rfl|true=>exact (hl (bU.1 hm)).elim
      have:xa rc t N=false:=by simp[xa,hd,e,E4]
      rw[this];simp only[bc];unfold S.look S.Uq;simp[hd,aI,e,fp,hl]
theorem Pl(d:Nat):∀N,(∀i,i<N->(rc i).f.w=true->ao (rc i).s1.b d≠none->d∈(rc i).f.bs)->ao (sig rc D s0 N).b d=gp D (D7 rc d) (λi=>ao (rc i).s1.b d) (ao s0.b d) N
 |0,_=>rfl|N+1,h=>by
  simp only[sig,gp];rw[<-Pl d N λi hi=>h i (by omega)];cases hD:D N with
  |false=>simp|true=>
   simp only[ba,nO];cases hw:(rc N).f.w with
   |false=>
    have:D7 rc d N=false:=by simp[D7,hw]
    rw[this];simp[S.Uq,hw]
   |true=>
    simp only[S.Uq,hw,ba,xU,rW];cases hm:iM d (rc N).f.bs with
    |true=>
     have:D7 rc d N=true:=by simp[D7,hw,hm]
     rw[this];simp only[ba];rw[ap (bU.1 hm)];cases ao (rc N).s1.b d<;>rfl
    |false=>
     have:D7 rc d N=false:=by simp[D7,hm]
     rw[this];have KB:d∉(rc N).f.bs:=λe=>by rw[bU.2 e]at hm;cases hm
     simp only[bc];rw[ai KB];cases hl:ao (rc N).s1.b d with
     |none=>rfl|some e=>exact (KB (h N (by omega) hw (by rw[hl];simp))).elim
theorem Pm(L:Lawful U T)(k:Nat):∀N,U.get k (sig rc D s0 N).h=gp D (KV rc k) (λi=>U.get k (rc i).s1.h) (U.get k s0.h) N
 |0=>rfl|N+1=>by
  simp only[sig,gp];rw[<-Pm L k N];cases hD:D N with
  |false=>simp|true=>
   simp only[ba,nO];cases hw:(rc N).f.w with
   |false=>
    have:KV rc k N=false:=by simp[KV,hw]
    rw[this];simp[S.Uq,hw]
   |true=>
    simp only[S.Uq,hw,ba];rw[wv L];cases hm:iM k (rc N).f.ks with
    |true=>
     have:KV rc k N=true:=by simp[KV,hw,hm]
     rw[this,ap (bU.1 hm)];rfl
    |false=>
     have:KV rc k N=false:=by simp[KV,hm]
     have KB:k∉(rc N).f.ks:=λe=>by rw[bU.2 e]at hm;cases hm
     rw[this,ai KB];rfl
end
section
variable{P:Program}{E:Env}{U:cm}{T:da U.C}{X:Ctx U}{w0:World}{I0:Cells}{n:Nat}{α:Type}{out:α}{esc:List (Nat×Nat)}{ops:Array Oper}
structure Alike(s s0:S U.C):Prop where
 look:∀t,s0.look t=s.look t
 b:s0.b=s.b
 h:s0.h=s.h
 hv:s0.hv=s.hv
 m:s0.m=s.m
 tick:s.tick<=s0.tick
 later:bu s s0
 Ci:(∀t st x,ao s.r t=some (st,x)->st<s.tick)->∀t st x,ao s0.r t=some (st,x)->st<s0.tick
theorem Alike.refl (s:S U.C):Alike s s:=⟨λ_=>rfl,rfl,rfl,rfl,rfl,aP _,.refl s,λh=>h⟩
theorem Alike.put {s:S U.C} {x:R U.C} (h:s.look t=x):Alike s (s.put (some t) x):=by
 refine⟨λt'=>?_,rfl,rfl,rfl,rfl,cL _,bd _ _,λhs t' st y hl=>?_⟩
 ·unfold S.look S.put;simp only[aI];by_cases e:t=t'
  ·subst e;simp only[bp];rw[<-h];rfl
  ·simp[e]
 ·simp only[S.put,aI]at hl⊢;split at hl
  ·simp only[ah,aS]at hl;omega
  ·have:=hs t' st y hl;omega
def yj(P:Program)(E:Env)(T:da U.C)(ops:Array Oper)(o:Oper)(s:S U.C)(b:Bool):Prop:=∀(bx:List (Nat×Nat×B U.C))(g:Nat->Nat)(tick:Nat)(q:St),(∀t∈o.looksAt ops,bn P E T bx g tick (s.look t) (q.r t))->fm ops o q=some b
inductive Did(P:Program)(E:Env)(T:da U.C)(X:Ctx U)(w0:World)(I0:Cells)(n:Nat)(esc:List (Nat×Nat))(ops:Array Oper)(j:Nat)(o:Oper)(s s':S U.C)(c:Rec U.C):Prop
 |run (s0:S U.C) (al:Alike s s0) (hd:c.dst=o.dst) (za:c.lost=iy o) (GP:c.ds=dS o) (hf:c.f=S.zD X esc ops j o s0) (ax:zC X c.f o (s0.only (jz ops o) c.f.bs c.f.ks) c.s1=true) (hL:bu (s0.only (jz ops o) c.f.bs c.f.ks) c.s1)
   (hs:∀q,aN P E T X (s0.only (jz ops o) c.f.bs c.f.ks) q->Sound P E w0 I0 n o q λq1=>aN P E T X c.s1 q1/\Fr X (s0.only (jz ops o) c.f.bs c.f.ks) o q q1) (hw:yj P E T ops o s true) (iX:s'=s0.merge c.s1 o.dst (iy o) c.f)
 |skip (s0:S U.C) (al:Alike s s0) (hd:c.dst=o.dst) (za:c.lost=[]) (GP:c.ds=[]) (hf:c.f=⟨j,[],[],false⟩) (hc:c.s1=s0.put o.dst qQ) (hw:yj P E T ops o s false) (iX:s'=s0.put o.dst qQ)
def Pr(b:Nat)(c c':Rec U.C):Prop:=(b.testBit c'.f.i=true∨((c.f.w||c'.f.w)=true->(∀d,d∈c.f.bs->d∉c'.f.bs)/\∀k,k∈c.f.ks->k∉c'.f.ks))/\∀d∈c.ds,d∉c'.f.bs
def PrF(b:Nat)(c:Rec U.C)(g:Fp):Prop:=(b.testBit g.i=true∨((c.f.w||g.w)=true->(∀d,d∈c.f.bs->d∉g.bs)/\∀k,k∈c.f.ks->k∉g.ks))/\∀d∈c.ds,d∉g.bs
theorem uG:∀{l l':List Nat},meets l l'=false↔∀d∈l,d∉l'
 |[],l'=>by simp[meets]|d::l,l'=>by
  simp only[meets,GF,uG (l:=l),c6,forall_eq_or_imp];refine and_congr_left λ_=>⟨λh e=>(by rw[bU.2 e]at h;cases h),λh=>?_⟩
  cases hm:iM d l' with
  |false=>rfl|true=>exact (h (bU.1 hm)).elim
theorem yk{b:Nat}{f:Fp}:∀{fs:List Fp},xS b f fs=true->∀g∈fs,b.testBit g.i=true∨((f.w||g.w)=true->(∀d,d∈f.bs->d∉g.bs)/\∀k,k∈f.ks->k∉g.ks)
 |[],_,g,hg=>by cases hg
 |g'::fs,h,g,hg=>by
  simp only[xS,aD,lP,hO]at h;rcases c6.1 hg with rfl|hg
  ·rcases h.1 with h|h
   ·exact .inl h
   ·refine .inr λhw=>?_;rw[hw]at h;simp only[nO,GF]at h;exact⟨uG.1 h.1,uG.1 h.2⟩
  ·exact yk h.2 g hg
theorem Bo{ds:List Nat}:∀{fs:List Fp},Dq ds fs=true->∀g∈fs,∀d∈ds,d∉g.bs
 |[],_,g,hg=>by cases hg
 |g'::fs,h,g,hg=>by
  simp only[Dq,aD,hO]at h;rcases c6.1 hg with rfl|hg
  ·exact uG.1 h.1
  ·exact Bo h.2 g hg
theorem NE{s:S U.C}(h:o.guard=none):yj P E T ops o s true:=λbx g tick q _=>by simp[fm,h]
theorem zW{s:S U.C}{want b:Bool}(h:o.guard=some (j,want))(hj:(ops[j]?).bind (·.dst)=some t)(hr:∀bx g tick q,bn P E T bx g tick (s.look t) (q.r t)->gate q t want=some b):yj P E T ops o s b:=λbx g tick q hq=>by simp only[fm,h,hj];refine hr bx g tick q (hq t ?_);simp only[Oper.looksAt,h,hj];simp
variable(L:Lawful U T)
include L in
theorem KX(hX:bG P E T X){m0:Nat->Bool}(hE:(∃k,m0 k=true)->E.fixed=false)(ax:gJ n ops=true){bf:Array Nat}{K:S U.C->Option α}:∀(l:List Oper)(i:Nat)(fs:List Fp)(s:S U.C),(∀j,l[j]?=ops[i+j]?)->s.m=m0->A0 X esc ops bf l i fs s K=some out->
  ∃(st:Nat->S U.C)(rc:Nat->Rec U.C),st i=s/\K (st (i+l.length))=some out/\∀j,i<=j->j<i+l.length->(rc j).f.i=j/\(∃o,ops[j]?=some o/\Did P E T X w0 I0 n esc ops j o (st j) (st (j+1)) (rc j))/\(∀g∈fs,PrF (bf.getD j 0) (rc j) g)/\∀k,i<=k->k<j->Pr (bf.getD j 0) (rc j) (rc k)
 |[],i,fs,s,hl,hm,h=>⟨λ_=>s,λ_=>⟨none,[],⟨0,[],[],false⟩,s,[]⟩,rfl,h,λj h1 h2=>by simp only[kS]at h2;omega⟩|o::l,i,fs,s,hl,hm,h=>by
  have ho:ops[i]?=some o:=by simpa using(hl 0).symm
  have jq:∀j,l[j]?=ops[(i+1)+j]?:=λj=>by have:=hl (j+1);simpa[iU,jo 1]using this
  have qG:=rq.1 ax o (nB ho);simp only[aD]at qG;have glue:∀(s':S U.C)(c:Rec U.C)(f:Fp),c.f=f->f.i=i->Did P E T X w0 I0 n esc ops i o s s' c->(∀g∈fs,PrF (bf.getD i 0) c g)->s'.m=m0->A0 X esc ops bf l (i+1) (f::fs) s' K=some out->
    ∃(st:Nat->S U.C)(rc:Nat->Rec U.C),st i=s/\K (st (i+(o::l).length))=some out/\∀j,i<=j->j<i+(o::l).length->(rc j).f.i=j/\(∃o,ops[j]?=some o/\Did P E T X w0 I0 n esc ops j o (st j) (st (j+1)) (rc j))/\(∀g∈fs,PrF (bf.getD j 0) (rc j) g)/\∀k,i<=k->k<j->Pr (bf.getD j 0) (rc j) (rc k):=by
   intro s' c f hcf hfi abx mi oF h;obtain⟨st,rc,h1,h2,h3⟩:=KX hX hE ax l (i+1) (f::fs) s' jq oF h;refine⟨λj=>if j=i then s else st j,λj=>if j=i then c else rc j,by simp,?_,λj hj1 Js=>?_⟩
   ·have e:i+(o::l).length=i+1+l.length:=by simp only[dE];omega
    simp only[e];rw[ai (by omega)];exact h2
   ·by_cases e:j=i
    ·subst e;simp only[bp];refine⟨by rw[hcf,hfi],⟨o,ho,?_⟩,mi,λk k1 k2=>by omega⟩;rw[ai (by omega),h1];exact abx
    ·simp only[ai e];obtain⟨g1,g2,g3,g4⟩:=h3 j (by omega) (by simp only[dE]at Js;omega);rw[ai (by omega)];refine⟨g1,g2,λg hg=>g3 g (tF _ hg),λk k1 k2=>?_⟩;by_cases ek:k=i
     ·subst ek;simp only[bp];have:=g3 f IA;unfold Pr;rw[hcf];exact this
     ·rw[ai ek];exact g4 k (by omega) k2
  have run:∀s0:S U.C,Alike s s0->yj P E T ops o s true->(bif xS (bf.getD i 0) (S.zD X esc ops i o s0) fs&&Dq (dS o) fs then iJ X (λ_ _=>none) esc false o (s0.only (jz ops o) (S.zD X esc ops i o s0).bs (S.zD X esc ops i o s0).ks) λs1=>bif zC X (S.zD X esc ops i o s0) o (s0.only (jz ops o) (S.zD X esc ops i o s0).bs (S.zD X esc ops i o s0).ks) s1 then A0 X esc ops bf l (i+1) (S.zD X esc ops i o s0::fs) (s0.merge s1 o.dst (iy o) (S.zD X esc ops i o s0)) K else none else none)=some out->_:=λs0 al hw h=>by
   obtain⟨h1,h⟩:=aq h;simp only[aD]at h1;have hE':(∃k,(s0.only (jz ops o) (S.zD X esc ops i o s0).bs (S.zD X esc ops i o s0).ks).m k=true)->E.fixed=false:=λ⟨k,hk⟩=>hE ⟨k,by simp only[S.only,aD]at hk;rw[<-hm,<-al.m];exact hk.1⟩;cases Nz (w0:=w0) (I0:=I0) L hX hE' qG.1 h with
   |one s1 hK hL hs=>obtain⟨h2,hK⟩:=aq hK;have hsm:=hL.m;refine glue _ ⟨o.dst,dS o,S.zD X esc ops i o s0,s1,iy o⟩ _ rfl rfl (.run s0 al rfl rfl rfl rfl h2 hL (λq hS a w hR Q=>?_) hw rfl) (λg hg=>⟨yk h1.1 g hg,Bo h1.2 g hg⟩) (by rw[<-hm,<-al.m];rfl) hK;exact lO (λa' w' ⟨q',g1,g2,g3⟩=>⟨q',g1,g2,g3 rfl⟩) (hs q hS a w hR Q)|two hf=>cases hf
   |cG p s1 hK=>cases hK
  have skip:∀s0:S U.C,Alike s s0->yj P E T ops o s false->A0 X esc ops bf l (i+1) (⟨i,[],[],false⟩::fs) (s0.put o.dst qQ) K=some out->_:=λs0 al hw h=>by refine glue _ ⟨o.dst,[],⟨i,[],[],false⟩,s0.put o.dst qQ,[]⟩ _ rfl rfl (.skip s0 al rfl rfl rfl rfl rfl hw rfl) (λg hg=>⟨.inr λ_=>⟨λd hd=>(by cases hd),λk hk=>(by cases hk)⟩,λd hd=>(by cases hd)⟩) ?_ h;rw[<-hm,<-al.m];cases o.dst<;>rfl
  unfold A0 at h;simp only at h;cases hg:o.guard with
  |none=>simp only[hg]at h;exact run s (.refl s) (NE hg) h|some p=>
   obtain⟨j,want⟩:=p;simp only[hg]at h;split at h
   ·cases h
   ·rename_i t hj;split at h
    ·rename_i b hb;have hw:yj P E T ops o s (b==want):=zW hg hj λbx g tick q hr=>by
      rw[hb]at hr;have hq:q.r t=.val (.fl (.bool b)):=by
       cases hr with
       |val _ _ _ av hq hv=>obtain ⟨_,rfl⟩:=hv;exact dp hq
      simp[gate,hq]
     cases b<;>cases want<;>simp only[ba,bc]at h
     ·exact run _ (.put hb) hw h
     ·exact skip _ (.put hb) hw h
     ·exact skip _ (.put hb) hw h
     ·exact run _ (.put hb) hw h
    ·rename_i b hb;have hw:yj P E T ops o s (b==want):=zW hg hj λbx g tick q hr=>by
      rw[hb]at hr;have hq:q.r t=.val (.fl (.bool b)):=by
       generalize q.r t=u at hr;cases hr with
       |const _ hc=>rfl
      simp[gate,hq]
     cases b<;>cases want<;>simp only[Bool.xor_self,Bool.xor_true,Bool.xor_false,tq,fG,ba,bc]at h
     ·exact run _ (.refl s) hw h
     ·exact skip _ (.refl s) hw h
     ·exact skip _ (.refl s) hw h
     ·exact run _ (.refl s) hw h
    ·rename_i hb;refine skip _ (.refl s) (zW hg hj λbx g tick q hr=>?_) h;rw[hb]at hr;have hq:∃qs,q.r t=.fb qs:=by
      generalize q.r t=u at hr;cases hr with
      |fb _ qs _ _=>exact ⟨qs,rfl⟩
     obtain⟨qs,hq⟩:=hq;simp[gate,hq]
    ·cases h
end
section
variable{C:Nat->Type}
theorem Cl{d':Nat}:d∈[d']↔Nat.beq d' d=true:=⟨λh=>by rw[mX.1 h];exact rN _,λh=>mX.2 (bM h).symm⟩
mutual
theorem yl{d:Nat}:∀{r:R C},d∈r.ids↔r.mentions d=true
 |.loc d' _=>Cl|.whole d'=>Cl
 |.gl d' _ _ _ _ _=>Cl|.fb rs=>by simp only[R.ids,R.mentions];exact pu
 |.fn _ rs=>by simp only[R.ids,R.mentions];exact pu|.none=>by simp[R.ids,R.mentions]
 |.val _ _=>by simp[R.ids,R.mentions]|.const _=>by simp[R.ids,R.mentions]
 |.full _ _=>by simp[R.ids,R.mentions]|.dn _ _ _=>by simp[R.ids,R.mentions]
 |.mI _ _ _=>by simp[R.ids,R.mentions]|.jZ _ _ _=>by simp[R.ids,R.mentions]
 |.jv _ _ _ _=>by simp[R.ids,R.mentions]|.sub d' _ _=>Cl
 |.vc rs=>by simp only[R.ids,R.mentions];exact pu|.sC r=>by simp only[R.ids,R.mentions];exact yl
 |.emp _=>by simp[R.ids,R.mentions]|.it=>by simp[R.ids,R.mentions]
 |.nz _ rs=>by simp only[R.ids,R.mentions];exact pu|.agg _ rs=>by simp only[R.ids,R.mentions];exact pu
theorem pu{d:Nat}:∀{rs:List (R C)},d∈Fv rs↔cF d rs=true
 |[]=>by simp[Fv,cF]|r::rs=>by simp only[Fv,cF,dt,lP];rw[yl,pu]
end
theorem B.yl {x:B C}:d∈x.ids↔x.mentions d=true:=by
 cases x with
 |aT _ _ _=>simp[B.ids,B.mentions]|cells _ rs=>exact pu
theorem GQ{s:S C}{bs:List Nat}(h:abb s bs (some d)=true):(∀e,(s.look d).mentions e=true->e∈bs)/\dF s.tick (s.look d)=true:=by
 simp only[abb,aD,R.TD,cJ]at h;obtain⟨h1,h2,h3⟩:=h;refine⟨λe he=>bU.1 (h2 e (Go.X.yl.2 he)),?_⟩;cases hl:s.look d with
 |gl d' i k mn t x=>rw[hl]at h3;exact h3|fb rs=>rw[hl]at h1;simp only[OR,cJ]at h1;simp only[dF];refine dC.2 λr hr=>?_;have:=h1 r hr;cases r<;>first|rfl|cases this
 |fn f rs=>rw[hl]at h1;simp only[OR,cJ]at h1;simp only[dF];refine dC.2 λr hr=>?_;have:=h1 r hr;cases r<;>first|rfl|cases this
 |vc _=>rw[hl]at h1;cases h1
 |sC _=>rw[hl]at h1;cases h1
 |nz _ _=>rw[hl]at h1;cases h1
 |agg _ rs=>rw[hl]at h1;simp only[OR,cJ]at h1;simp only[dF];refine dC.2 λr hr=>?_;have:=h1 r hr;cases r<;>first|rfl|cases this
 |_=>rfl
theorem zX{f:Fp}{ds:List Nat}{bx:List (Nat×Nat×B C)}{tick:Nat}:∀{l:List (Nat×Nat×B C)},Xk f ds bx tick l=true->∀d st x,(d,st,x)∈l->d∈f.bs/\st<tick/\(∀e,x.mentions e=true->e∈f.bs)/\x.E6 tick=true/\(d∈ds∨ao bx d≠none)
 |[],h,d,st,x,hm=>by cases hm
 |(d',jh,x')::l,h,d,st,x,hm=>by
  simp only[Xk,aD,lP,cJ,gE]at h;obtain⟨h1,h2,h3,h4,h5,h6⟩:=h;rcases c6.1 hm with e|hm
  ·simp only[aS]at e;obtain⟨rfl,rfl,rfl⟩:=e;refine⟨bU.1 h1,h2,λe he=>bU.1 (h3 e (B.yl.2 he)),h4,h5.imp bU.1 λh e=>?_⟩;unfold Xj at h;rw[e]at h;cases h
  ·exact zX h6 d st x hm
theorem Bp{tick:Nat}{bx bx1:List (Nat×Nat×B C)}:∀{l:List Nat},Ib tick bx bx1 l=true->∀d∈l,(∃st x,ao bx1 d=some (st,x)/\st<tick)∨(ao bx1 d=none/\ao bx d=none)
 |[],h,d,hd=>by cases hd
 |d'::l,h,d,hd=>by
  simp only[Ib,aD]at h;rcases c6.1 hd with rfl|hd
  ·have h1:=h.1;cases hl:ao bx1 d with
   |none=>
    rw[hl]at h1;refine .inr ⟨rfl,?_⟩;unfold Xj at h1;cases hb:ao bx d with
    |none=>rfl|some e=>rw[hb]at h1;cases h1
   |some e=>obtain⟨st,x⟩:=e;rw[hl]at h1;exact .inl ⟨st,x,rfl,by simpa using h1⟩
  ·exact Bp h.2 d hd
end
section
variable{P:Program}{E:Env}{U:cm}{T:da U.C}{X:Ctx U}
theorem pI.zV {bx:List (Nat×Nat×B U.C)} {g:Nat->Nat} {tick':Nat} {o:Option (Nat×B U.C)} {u:Option Bx} (h:pI P E T X bx g tick o u) (hv:∀st x,o=some (st,x)->x.E6 tick'=true):pI P E T X bx g tick' o u:=by
 cases o with
 |none=>trivial|some e=>
  obtain⟨st,x⟩:=e;cases x with
  |aT t e xs=>exact h|cells t rs=>obtain⟨h1,h2,cs,h3,h4,h5⟩:=h;exact⟨h1,h2,cs,h3,h4,λi r c hr hc=>(h5 i r c hr hc).zV (dC.1 (hv _ _ rfl) r (bC hr))⟩
theorem Rz{s s' p s1:S U.C}{f:Fp}{q q1:St}(h:aN P E T X s q)(h1:aN P E T X s1 q1)(fr:Fr X p o q q1)(hL:bu p s1)(ax:zC X f o p s1=true)
  (hpm:∀k,p.m k=(s.m k&&iM k f.ks)) (XM:∀d,d∈f.bs->ao p.b d=ao s.b d) (hpn:∀d,d∉f.bs->ao p.b d=none) (GP:∀d∈dS o,d∈f.bs)
  (OY:∀t,s'.look t=if o.dst=some t then s1.look t else if t∈iy o then .none else s.look t)
  (lC:∀d,ao s'.b d=if f.w=true/\d∈f.bs then ao s1.b d else ao s.b d)
  (sh:∀k,U.get k s'.h=if f.w=true/\k∈f.ks then U.get k s1.h else U.get k s.h)
  (hm:s'.m=s.m) (WA:s'.tick=s.tick) (ht1:s1.tick<=s.tick) (Us:∀t st x,ao s'.r t=some (st,x)->st<s'.tick)
  (hvR:f.w=true->∀t,o.dst≠some t->∀d∈f.bs,(s.look t).mentions d=true->dF p.tick (s.look t)=true)
  (hvB:f.w=true->∀d st x,ao s.b d=some (st,x)->d∉f.bs->∀d'∈f.bs,x.mentions d'=true->x.E6 p.tick=true)
  (hnR:f.w=true->∀t,o.dst≠some t->∀d∈dS o,(s.look t).mentions d=false)
  (hnB:f.w=true->∀d st x,ao s.b d=some (st,x)->d∉f.bs->∀d'∈dS o,x.mentions d'=false):aN P E T X s' q1:=by
 have hpt:p.tick<=s1.tick:=hL.tick;simp only[zC,aD,lP,hO]at ax;obtain⟨Sd,Zr,Md⟩:=ax;have aby:f.w=true->∀d st x,ao s1.b d=some (st,x)->d∈f.bs/\st<s1.tick/\(∀e,x.mentions e=true->e∈f.bs)/\x.E6 s1.tick=true/\(d∈dS o∨ao p.b d≠none):=λhw d st x hl=>by rw[hw]at Md;exact zX Md d st x (fW hl)
 have still:f.w=false->q1.b=q.b/\q1.g=q.g/\q1.a=q.a/\q1.u=q.u/\∀t,o.dst≠some t->q1.r t=q.r t:=λhw=>fr.still (by
  rcases Zr with e|e
  ·rw[hw]at e;cases e
  ·exact e)
 have D8:∀d,d∈f.bs->ao s'.b d=ao s1.b d:=λd hd=>by
  rw[lC];cases hw:f.w with
  |true=>simp[hd]|false=>
   simp only[gB,false_and,bY];rw[hw]at Md;simp only[bc]at Md;rcases Bp Md d hd with⟨st,x,e1,e2⟩|⟨e1,e2⟩
   ·rw[e1,<-XM d hd];exact hL.b d st x e1 e2
   ·rw[e1,<-XM d hd];exact e2
 have aey:∀d,d∉f.bs->ao s'.b d=ao s.b d:=λd hd=>by rw[lC];simp[hd]
 have Ut:∀tick d,d∉f.bs->kX s.b s'.b q.g q1.g tick d:=λtick d hd=>.inl ⟨aey d hd,(fr.ev d λe=>hd (GP d e)).2⟩;have dN:f.w=true->∀d,d∉dS o->kX s.b s'.b q.g q1.g p.tick d:=λhw d tM=>by
  by_cases hd:d∈f.bs
  ·obtain ⟨ev,hg⟩:=fr.ev d tM;unfold kX;rw[D8 d hd];cases hl:ao s1.b d with
   |none=>exact .inr (.inl rfl)|some e=>
    obtain⟨st1,x1⟩:=e;by_cases mK:st1<p.tick
    ·left;exact⟨by rw[<-XM d hd];exact (hL.b d st1 x1 hl mK).symm,hg⟩
    ·obtain ⟨_,_,_,_,Zs⟩:=aby hw d st1 x1 hl;rcases Zs with Zs|Zs
     ·exact (tM Zs).elim
     ·cases hlp:ao p.b d with
      |none=>exact (Zs hlp).elim|some e=>
       obtain⟨st,x⟩:=e;have hls:ao s.b d=some (st,x):=by rw[<-XM d hd,hlp]
       have b0:=h.boxes d;have b1:=h1.boxes d;rw[hls]at b0;rw[hl]at b1;right;right;cases x with
       |cells u rs=>
        cases x1 with
        |cells u1 rs1=>exact .inl ⟨hg,_,_,_,_,_,_,hls,rfl⟩|aT t1 e1 xs1=>obtain⟨_,_,cs,c0,_⟩:=b0;obtain⟨_,c1⟩:=b1;rw[c0,c1]at ev;rcases ev with ev|⟨_,_,_,ev⟩|⟨_,_,_,ev,_⟩<;>cases ev
       |aT t e xs=>
        obtain⟨d0,c0⟩:=b0;cases x1 with
        |cells u1 rs1=>obtain⟨_,_,cs,c1,_⟩:=b1;rw[c0,c1]at ev;rcases ev with ev|⟨_,_,ev,_⟩|⟨_,_,_,_,ev,_⟩<;>cases ev
        |aT t1 e1 xs1=>
         obtain⟨d1,c1⟩:=b1;rw[c0,c1]at ev;rcases ev with ev|⟨_,_,ev,_⟩|⟨e2,l,l',ev1,ev2,ev3⟩
         ·cases ev
         ·cases ev
         ·simp only[ah,Bx.aT.injEq]at ev1 ev2;obtain⟨rfl,rfl⟩:=ev1;obtain⟨rfl,rfl⟩:=ev2;rw[d0]at d1;cases d1;exact .inr ⟨hg,_,_,_,_,_,_,_,hls,rfl,by simpa using ev3,by omega⟩
  ·exact Ut _ d hd
 refine⟨λt=>?_,λd=>?_,Us,λd st x hx=>?_,λk hk L8 i=>?_,by rw[fr.df];exact h.df⟩
 ·
  rw[OY t,WA];by_cases hd:o.dst=some t
  ·rw[ap hd];rw[hd]at Sd;obtain⟨e1,_⟩:=GQ Sd;exact(h1.cr t).mono (λd hdm=>.inl ⟨D8 d (e1 d hdm),rfl⟩) ht1
  ·rw[ai hd];by_cases za:t∈iy o
   ·rw[ap za];exact .none _
   rw[ai za];have hr:=h.cr t;cases hw:f.w with
   |false=>obtain⟨e1,e2,_,_,e5⟩:=still hw;rw[e5 t hd];exact hr.mono (λd _=>.inl ⟨by rw[lC];simp[hw],by rw[e2]⟩) (aP _)|true=>
    have h2:bn P E T s'.b q1.g s.tick (s.look t) (q.r t):=by
     by_cases hn:∃d∈f.bs,(s.look t).mentions d=true
     ·obtain ⟨d,sF,xh⟩:=hn;refine(hr.zV (hvR hw t hd d sF xh)).mono (λd' fF=>dN hw d' λe=>?_) (by omega);rw[hnR hw t hd d' e]at fF;cases fF
     ·exact hr.mono (λd hdm=>Ut _ d λe=>hn ⟨d,e,hdm⟩) (aP _)
    rcases fr.r t hd za with e|⟨d,gg,off,len,e1,e2,e3⟩
    ·rw[e];exact h2
    ·rw[e1]at h2;have E5:d∈f.bs:=JP λhc=>e2 (hpn d hc);have KB:=hnR hw t hd;generalize s.look t=r at h2 KB;generalize hv:br.view d gg off len=v at h2;cases h2 with
     |none=>exact .none _|val t x _ av hq _=>subst hv;cases hq
     |const v _=>unfold cf at hv;split at hv<;>cases hv
     |full=>cases hv
     |loc d' k _ hh=>exact .loc d' k _ λst u rs hb=>by have:=hh st u rs hb;rw[<-hv]at this;cases this
     |whole d' _ hh=>
      refine .whole d' _ λst t e xs hb=>?_;have:=hh st t e xs hb;rw[<-hv]at this;simp only[br.view.injEq]at this;obtain⟨rfl,_⟩:=this;rcases e3 with e3|e3
      ·rw[D8 d E5]at hb;have Ax:=h1.boxes d;rw[hb,e3]at Ax;obtain⟨_,Ax⟩:=Ax;cases Ax
      ·have:=KB d e3;simp[R.mentions]at this
     |gl d' i k mn t x _ JJ hh=>exact .gl d' i k mn t x _ JJ λst t' e xs hb=>by have:=(hh st t' e xs hb).1;rw[<-hv]at this;cases this
     |dn=>cases hv
     |fb=>cases hv
     |fn=>cases hv
     |mI=>cases hv
     |jZ=>cases hv
     |jv=>cases hv
     |sub d' SL m _ hh=>
      refine .sub d' SL m _ λst t e xs hb=>?_;have:=hh st t e xs hb;rw[<-hv]at this;obtain⟨this,_⟩:=this;simp only[br.view.injEq]at this;obtain⟨rfl,_⟩:=this;rcases e3 with e3|e3
      ·rw[D8 d E5]at hb;have Ax:=h1.boxes d;rw[hb,e3]at Ax;obtain⟨_,Ax⟩:=Ax;cases Ax
      ·have:=KB d e3;simp[R.mentions]at this
     |it=>cases hv
     |vc=>cases hv
     |sC=>cases hv
     |emp=>cases hv
     |nz=>cases hv
     |agg=>cases hv
 ·
  rw[WA];by_cases hc:f.w=true/\d∈f.bs
  ·rw[D8 d hc.2];exact(h1.boxes d).mono (λst x hx d' fF=>.inl ⟨D8 d' ((aby hc.1 d st x hx).2.2.1 d' fF),rfl⟩) ht1
  ·have e0:ao s'.b d=ao s.b d:=by rw[lC,ai hc]
   rw[e0];cases hw:f.w with
   |false=>obtain⟨e1,e2,_⟩:=still hw;rw[e1];exact(h.boxes d).mono (λst x hx d' fF=>.inl ⟨by rw[lC];simp[hw],by rw[e2]⟩) (aP _)|true=>
    have hd:d∉f.bs:=λe=>hc ⟨hw,e⟩;rw[(fr.b d (hpn d hd) λe=>hd (GP d e)).1];have hb:=h.boxes d;cases hl:ao s.b d with
    |none=>trivial|some e=>
     obtain⟨st,x⟩:=e;rw[hl]at hb;by_cases hn:∃d'∈f.bs,x.mentions d'=true
     ·obtain ⟨d1,sF,xh⟩:=hn;have dZ:=hb.zV (tick':=p.tick) λjh x' e=>by simp only[ah,aS]at e;obtain⟨rfl,rfl⟩:=e;exact hvB hw d st x hl hd d1 sF xh
      refine dZ.mono (λjh x' e d' fF=>?_) (by omega);simp only[ah,aS]at e;obtain⟨rfl,rfl⟩:=e;refine dN hw d' λe=>?_;rw[hnB hw d st x hl hd d' e]at fF;cases fF
     ·refine hb.mono (λjh x' e d' fF=>?_) (aP _);simp only[ah,aS]at e;obtain⟨rfl,rfl⟩:=e;exact Ut _ d' λe=>hn ⟨d',e,fF⟩
 ·rw[WA];by_cases hc:f.w=true/\d∈f.bs
  ·rw[D8 d hc.2]at hx;have:=(aby hc.1 d st x hx).2.1;omega
  ·rw[lC,ai hc]at hx;exact h.Fw d st x hx
 ·rw[sh];rw[hm]at L8;by_cases hc:f.w=true/\k∈f.ks
  ·rw[ap hc];exact h1.heap k hk (by rw[hL.m,hpm,L8,bU.2 hc.2];rfl) i
  ·rw[ai hc];have:=h.heap k hk L8 i;have e:q1.a (dk k i)=q.a (dk k i)/\q1.u (dk k i)=q.u (dk k i):=by
    cases hw:f.w with
    |false=>obtain⟨_,_,e3,e4,_⟩:=still hw;rw[e3,e4];exact⟨rfl,rfl⟩|true=>
     refine fr.a k i hk ?_;rw[hpm];cases Jz:iM k f.ks with
     |false=>simp|true=>exact (hc ⟨hw,bU.1 Jz⟩).elim
   rw[e.1,e.2];exact this
end
section
variable{P:Program}{E:Env}{U:cm}{T:da U.C}{X:Ctx U}{w0:World}{I0:Cells}{n:Nat}{α:Type}{out:α}{esc:List (Nat×Nat)}{ops:Array Oper}
theorem aN.KY {s s':S U.C} {q:St} (h:aN P E T X s q) (hr:∀t,s'.look t=s.look t∨s'.look t=.none) (hb:∀d,ao s'.b d=ao s.b d∨ao s'.b d=none) (Us:∀t st x,ao s'.r t=some (st,x)->st<s'.tick) (ah6:∀d st x,ao s'.b d=some (st,x)->st<s'.tick)
  (hvR:∀t,dF s'.tick (s'.look t)=true) (hvB:∀d st x,ao s'.b d=some (st,x)->x.E6 s'.tick=true) (hh:∀k,k<U.nk->s'.m k=true->s.m k=true/\U.get k s'.h=U.get k s.h):aN P E T X s' q:=by
 have hk:∀d,kX s.b s'.b q.g q.g s'.tick d:=λd=>by
  rcases hb d with e|e
  ·exact .inl ⟨e,rfl⟩
  ·exact .inr (.inl e)
 refine⟨λt=>?_,λd=>?_,Us,ah6,λk Iv hm i=>?_,h.df⟩
 ·rcases hr t with e|e
  ·have:=hvR t;rw[e]at this⊢;exact((h.cr t).zV this).mono (λd _=>hk d) (aP _)
  ·rw[e];exact .none _
 ·rcases hb d with e|e
  ·have:=hvB d;rw[e]at this⊢;exact((h.boxes d).zV this).mono (λ_ _ _ d _=>hk d) (aP _)
  ·rw[e];trivial
 ·obtain ⟨e1,e2⟩:=hh k Iv hm;rw[e2];exact h.heap k Iv e1 i
theorem zY(d tick:Nat)(l:List (Nat×Nat×R U.C))(t:Nat):ao (lQ d tick l) t=(ao l t).map λe=>if e.2.mentions d=true then(tick,.none)else e:=by
 induction l with
 |nil=>rfl|cons e l ih=>
  obtain⟨t',st,x⟩:=e;simp only[lQ];cases hm:x.mentions d with
  |true=>simp only[ba,aI,ih];split<;>simp[hm]|false=>simp only[bc,aI,ih];split<;>simp[hm]
theorem S.Uu {s s':S U.C} (h:s'.r=lQ d tick s.r) (t:Nat):s'.look t=if(s.look t).mentions d=true then .none else s.look t:=by
 rw[S.look_eq,S.look_eq,h,zY];cases ao s.r t with
 |none=>simp[R.mentions]|some e=>
  obtain⟨st,x⟩:=e;simp only[bQ];cases hm:x.mentions d with
  |true=>simp[hm]|false=>simp[hm]
theorem GR{d:Nat}:∀{l:List (Nat×Nat×B U.C)},oy d l=true->∀e st x,ao l e=some (st,x)->x.mentions d=false
 |[],h,e,st,x,hx=>by cases hx
 |(d',jh,x')::l,h,e,st,x,hx=>by
  simp only[oy,aD,hO]at h;rw[aI]at hx;split at hx
  ·simp only[ah,aS]at hx;obtain⟨rfl,rfl⟩:=hx;exact h.1
  ·exact GR h.2 e st x hx
theorem Pn{q:St}:∀{ds:List Nat}{s s0:S U.C},TC ds s=some s0->aN P E T X s q->aN P E T X s0 q/\bu s s0/\s0.m=s.m/\(∀t,s0.look t=s.look t∨s0.look t=.none)/\(∀d,ao s0.b d=ao s.b d∨ao s0.b d=none)/\∀d∈ds,(∀t,(s0.look t).mentions d=false)/\∀e st x,ao s0.b e=some (st,x)->x.mentions d=false
 |[],s,s0,h,hS=>by simp only[TC,ah]at h;subst h;exact⟨hS,.refl s,rfl,λ_=>.inl rfl,λ_=>.inl rfl,λd hd=>by cases hd⟩
 |d::ds,s,s0,h,hS=>by
  simp only[TC]at h;obtain⟨hf,h⟩:=aq h;have Wu:=λt=>S.Uu (s:=s) (s':={s with r:=lQ d s.tick s.r,b:=bk s.b d,tick:=s.tick+1}) rfl t;have OV:∀e,ao (bk s.b d) e=ao s.b e∨ao (bk s.b d) e=none:=λe=>by
   rw[aF];split
   ·exact .inr rfl
   ·exact .inl rfl
  have Us:∀t st x,ao (lQ d s.tick s.r) t=some (st,x)->st<s.tick+1:=λt st x hx=>by
   rw[zY]at hx;simp only[ck]at hx;obtain⟨⟨jh,x'⟩,e1,e2⟩:=hx;split at e2
   ·simp only[aS]at e2;omega
   ·simp only[aS]at e2;have:=hS.Ci t jh x' e1;omega
  have Gx:aN P E T X {s with r:=lQ d s.tick s.r,b:=bk s.b d,tick:=s.tick+1} q:=by
   refine hS.KY (λt=>?_) OV Us (λe st x hx=>?_) (λt=>?_) (λe st x hx=>?_) λk _ hm=>⟨hm,rfl⟩
   ·rw[Wu t];split
    ·exact .inr rfl
    ·exact .inl rfl
   ·rw[aF]at hx;split at hx
    ·cases hx
    ·have:=hS.Fw e st x hx;show st<s.tick+1;omega
   ·rw[Wu t];split
    ·rfl
    ·exact iH (cL _) (hS.cr t).dF
   ·rw[aF]at hx;split at hx
    ·cases hx
    ·have:=hS.boxes e;rw[hx]at this;exact B.pr (cL _) this.E6
  have WE:bu s {s with r:=lQ d s.tick s.r,b:=bk s.b d,tick:=s.tick+1}:=by
   refine⟨rfl,cL _,λt st x hx mK=>?_,λe st x hx mK=>?_,λh=>⟨rfl,rfl⟩⟩
   ·simp only[zY,ck]at hx;obtain⟨⟨jh,x'⟩,e1,e2⟩:=hx;split at e2
    ·simp only[aS]at e2;omega
    ·rw[e1,e2]
   ·simp only[aF]at hx;split at hx
    ·cases hx
    ·exact hx
  obtain⟨g1,g2,g3,g4,g5,g6⟩:=Pn h Gx;refine⟨g1,WE.trans g2,g3,λt=>?_,λe=>?_,λd' fF=>?_⟩
  ·rcases g4 t with e|e
   ·rw[e,Wu t];split
    ·exact .inr rfl
    ·exact .inl rfl
   ·exact .inr e
  ·rcases g5 e with e'|e'
   ·rw[e'];exact OV e
   ·exact .inr e'
  ·rcases c6.1 fF with rfl|fF
   ·refine ⟨λt=>?_,λe st x hx=>?_⟩
    ·rcases g4 t with e|e
     ·rw[e,Wu t];split
      ·rfl
      ·rename_i hn;cases hm:(s.look t).mentions d' with
       |true=>exact (hn hm).elim|false=>rfl
     ·rw[e];rfl
    ·rcases g5 e with e'|e'
     ·rw[e']at hx;exact GR hf e st x hx
     ·rw[e']at hx;cases hx
   ·exact g6 d' fF
structure Uv(ops:Array Oper)(st:Nat->S U.C)(rc:Nat->Rec U.C)(j:Nat):Prop where
 look:∀t,(st (j+1)).look t=if xa rc t j=true then(rc j).val t else(st j).look t
 box:∀d,ao (st (j+1)).b d=if(rc j).f.w=true/\d∈(rc j).f.bs then ao (rc j).s1.b d else ao (st j).b d
 get:∀k,U.get k (st (j+1)).h=if(rc j).f.w=true/\k∈(rc j).f.ks then U.get k (rc j).s1.h else U.get k (st j).h
 later:bu (st j) (st (j+1))
 tick:(rc j).s1.tick<=(st (j+1)).tick
 Ci:(∀t s x,ao (st j).r t=some (s,x)->s<(st j).tick)->∀t s x,ao (st (j+1)).r t=some (s,x)->s<(st (j+1)).tick
 bx:(rc j).f.w=true->∀d s x,ao (rc j).s1.b d=some (s,x)->d∈(rc j).f.bs/\s<(rc j).s1.tick/\(∀e,x.mentions e=true->e∈(rc j).f.bs)/\x.E6 (rc j).s1.tick=true
 rg:∀t,xa rc t j=true->(∀e,((rc j).val t).mentions e=true->e∈(rc j).f.bs)/\dF (rc j).s1.tick ((rc j).val t)=true
theorem tP{C:Nat->Type}(s:S C)(dst:Option Nat)(r:R C)(t:Nat):(s.put dst r).look t=if dst=some t then r else s.look t:=by
 cases dst with
 |none=>simp[S.put]|some d=>
  unfold S.look S.put;simp only[aI];by_cases e:d=t
  ·simp[e]
  ·simp[e]
theorem XN(L:Lawful U T){st:Nat->S U.C}{rc:Nat->Rec U.C}(h:Did P E T X w0 I0 n esc ops j o (st j) (st (j+1)) (rc j)):Uv ops st rc j:=by
 cases h with
 |run s0 al hd za GP hf ax hL hs hw iX=>
  have aez:=ax;simp only[zC,aD,lP,hO]at aez;obtain⟨Sd,Zr,Md⟩:=aez;have hpt:s0.tick<=(rc j).s1.tick:=hL.tick;have bx:(rc j).f.w=true->∀d s x,ao (rc j).s1.b d=some (s,x)->d∈(rc j).f.bs/\s<(rc j).s1.tick/\(∀e,x.mentions e=true->e∈(rc j).f.bs)/\x.E6 (rc j).s1.tick=true:=λhw d s x hl=>by rw[hw]at Md;obtain⟨e1,e2,e3,e4,_⟩:=zX Md d s x (fW hl);exact⟨e1,e2,e3,e4⟩
  have lC:∀d,ao (st (j+1)).b d=if(rc j).f.w=true/\d∈(rc j).f.bs then ao (rc j).s1.b d else ao (st j).b d:=λd=>by
   rw[iX,<-al.b];simp only[S.merge];cases hw:(rc j).f.w with
   |false=>simp|true=>
    simp only[ba,xU,rW,nY];by_cases hdm:d∈(rc j).f.bs
    ·simp only[hdm,bp];cases ao (rc j).s1.b d<;>rfl
    ·simp only[hdm,bY];cases hl:ao (rc j).s1.b d with
     |none=>rfl|some e=>obtain⟨s,x⟩:=e;exact(hdm (bx hw d s x hl).1).elim
  have XO:bu s0 (st (j+1)):=by
   rw[iX];refine⟨rfl,by show s0.tick<=(rc j).s1.tick+1;omega,λt s x hx mK=>?_,λd s x hx mK=>?_,λhh=>?_⟩
   ·simp only[S.merge]at hx;have ZV:∀l,ao (lT (rc j).s1.tick (iy o) l) t=some (s,x)->ao l t=some (s,x):=λl hx=>by
     rw[fp]at hx;split at hx
     ·simp only[ah,aS]at hx;omega
     ·exact hx
    cases XP:o.dst with
    |none=>rw[XP]at hx;exact ZV _ hx|some d=>
     rw[XP]at hx;simp only[aI]at hx;split at hx
     ·simp only[ah,aS]at hx;omega
     ·exact ZV _ hx
   ·rw[<-iX,lC,<-al.b]at hx;split at hx
    ·have:=hL.b d s x hx mK;simp only[S.only,gL]at this;split at this
     ·exact this
     ·cases this
    ·exact hx
   ·simp only[S.merge]at hh⊢;cases hc:(rc j).f.w&&Nat.ble s0.tick (rc j).s1.hv with
    |true=>rw[hc]at hh;simp only[ba]at hh;simp only[aD,tJ]at hc;omega|false=>exact ⟨rfl,rfl⟩
  refine⟨λt=>?_,lC,λk=>?_,al.later.trans XO,by rw[iX];exact cL _,λmK t s x hx=>?_,bx,λt ht=>?_⟩
  ·rw[iX,<-al.look t];have hm:iM t (iy o)=decide (t∈iy o):=by
    by_cases h:t∈iy o
    ·rw[bU.2 h];simp[h]
    ·cases hm:iM t (iy o)with
     |true=>exact (h (bU.1 hm)).elim|false=>simp[h]
   simp only[xa,Rec.val,hd,za,hm];cases XP:o.dst with
   |none=>unfold S.look S.merge;simp only[fp];by_cases hl:t∈iy o<;>simp[hl]|some d=>
    unfold S.look S.merge;simp only[aI,fp];by_cases e:d=t
    ·subst e;simp;rfl
    ·by_cases hl:t∈iy o<;>simp[e,hl]
  ·rw[iX,<-al.h];simp only[S.merge];cases hw:(rc j).f.w with
   |false=>simp|true=>
    simp only[nO,nY];cases hc:Nat.ble s0.tick (rc j).s1.hv with
    |true=>simp only[ba];rw[wv L]|false=>
     simp only[bc];have eK:(rc j).s1.hv<s0.tick:=by
      rcases th (rc j).s1.hv s0.tick with h|h
      ·exact h
      ·have h':Nat.ble s0.tick (rc j).s1.hv=true:=by rw[tJ];exact h
       rw[h']at hc;cases hc
     obtain⟨_,e⟩:=hL.h eK;rw[e];simp[S.only]
  ·rw[iX]at hx⊢;have wX:=al.Ci mK;simp only[S.merge]at hx⊢;have ZV:ao (lT (rc j).s1.tick (iy o) s0.r) t=some (s,x)->s<(rc j).s1.tick+1:=λhx=>by
    rw[fp]at hx;split at hx
    ·simp only[ah,aS]at hx;omega
    ·have:=wX t s x hx;omega
   cases XP:o.dst with
   |none=>rw[XP]at hx;exact ZV hx|some d=>
    rw[XP]at hx;simp only[aI]at hx;split at hx
    ·simp only[ah,aS]at hx;omega
    ·exact ZV hx
  ·unfold Rec.val;by_cases hdt:(rc j).dst=some t
   ·rw[ap hdt];rw[hd]at hdt;rw[hdt]at Sd;exact GQ Sd
   ·rw[ai hdt];exact⟨λe he=>by simp[R.mentions]at he,rfl⟩
 |skip s0 al hd za GP hf hc hw iX=>
  have e1:(rc j).s1.tick=(st (j+1)).tick:=by rw[hc,iX]
  refine⟨λt=>?_,λd=>?_,λk=>?_,?_,Nat.le_of_eq e1,λmK t s x hx=>?_,λhw=>(by rw[hf]at hw;cases hw),λt ht=>?_⟩
  ·simp only[xa,Rec.val,za,hd];rw[iX,hc,tP,al.look];by_cases e:o.dst=some t<;>simp[e,iM]
  ·rw[iX,hf,<-al.b];simp;cases o.dst<;>rfl
  ·rw[iX,hf,<-al.h];simp;cases o.dst<;>rfl
  ·rw[iX];exact al.later.trans (bd _ _)
  ·rw[iX]at hx⊢;have wX:=al.Ci mK;cases XP:o.dst with
   |none=>rw[XP]at hx;exact wX t s x hx|some d=>
    rw[XP]at hx;simp only[S.put,aI]at hx⊢;split at hx
    ·simp only[ah,aS]at hx;omega
    ·have:=wX t s x hx;omega
  ·have ht:o.dst=some t:=by simpa[xa,za,iM,hd]using ht
   simp only[Rec.val,hd,ap ht];rw[hc,tP,ap ht];exact⟨λe he=>by simp[qQ,R.mentions,cF]at he,rfl⟩
variable{st:Nat->S U.C}{rc:Nat->Rec U.C}{N:Nat}
theorem ym(h:∀j,j<N->Uv ops st rc j)(t:Nat):∀j,j<=N->(st j).look t=gp (λ_=>true) (xa rc t) (λi=>(rc i).val t) ((st 0).look t) j
 |0,_=>rfl|j+1,hj=>by simp only[gp,nO];rw[(h j (by omega)).look t,ym h t j (by omega)];cases hw:xa rc t j<;>simp
theorem yn(h:∀j,j<N->Uv ops st rc j)(d:Nat):∀j,j<=N->ao (st j).b d=gp (λ_=>true) (D7 rc d) (λi=>ao (rc i).s1.b d) (ao (st 0).b d) j
 |0,_=>rfl|j+1,hj=>by
  simp only[gp,nO];rw[(h j (by omega)).box d,yn h d j (by omega)];by_cases e:(rc j).f.w=true/\d∈(rc j).f.bs
  ·simp[e,D7,bU.2 e.2]
  ·rw[ai e];have:D7 rc d j=false:=by
    cases hw:D7 rc d j with
    |false=>rfl|true=>simp only[D7,aD]at hw;exact(e ⟨hw.1,bU.1 hw.2⟩).elim
   rw[this];rfl
theorem IJ(h:∀j,j<N->Uv ops st rc j)(k:Nat):∀j,j<=N->U.get k (st j).h=gp (λ_=>true) (KV rc k) (λi=>U.get k (rc i).s1.h) (U.get k (st 0).h) j
 |0,_=>rfl|j+1,hj=>by
  simp only[gp,nO];rw[(h j (by omega)).get k,IJ h k j (by omega)];by_cases e:(rc j).f.w=true/\k∈(rc j).f.ks
  ·simp[e,KV,bU.2 e.2]
  ·rw[ai e];have:KV rc k j=false:=by
    cases hw:KV rc k j with
    |false=>rfl|true=>simp only[KV,aD]at hw;exact(e ⟨hw.1,bU.1 hw.2⟩).elim
   rw[this];rfl
theorem jS(h:∀j,j<N->Uv ops st rc j):∀i j,i<=j->j<=N->bu (st i) (st j)
 |i,0,h1,h2=>by
  have:i=0:=by omega
  subst this;exact .refl _
 |i,j+1,h1,h2=>by
  by_cases e:i=j+1
  ·subst e;exact .refl _
  ·exact (jS h i j (by omega) (by omega)).trans (h j (by omega)).later
theorem yo(h:∀j,j<N->Uv ops st rc j)(h1:i<j)(h2:j<=N):(rc i).s1.tick<=(st j).tick:=dI (h i (by omega)).tick (jS h (i+1) j h1 h2).tick
theorem IK(h:∀j,j<N->Uv ops st rc j)(h0:∀t s x,ao (st 0).r t=some (s,x)->s<(st 0).tick):∀j,j<=N->∀t s x,ao (st j).r t=some (s,x)->s<(st j).tick
 |0,_=>h0|j+1,hj=>(h j (by omega)).Ci (IK h h0 j (by omega))
theorem Po(h:∀j,j<N->Uv ops st rc j)(h0:∀t s x,ao (st 0).b t=some (s,x)->s<(st 0).tick)(hj:j<=N)(d s:Nat)(x:B U.C)(hx:ao (st j).b d=some (s,x)):s<(st j).tick:=by
 have ht:=(jS h 0 j (by omega) hj).tick;rw[yn h d j hj]at hx;rcases lc (D:=λ_=>true) (wr:=D7 rc d) (v:=λi=>ao (rc i).s1.b d) (b0:=ao (st 0).b d) (N:=j)with e|⟨i,h1,_,h3,e⟩
 ·rw[e]at hx;have:=h0 d s x hx;omega
 ·rw[e]at hx;simp only[D7,aD]at h3;have:=((h i (by omega)).bx h3.1 d s x hx).2.1;have:=yo h h1 hj;omega
theorem KZ(h:∀j,j<N->Uv ops st rc j)(h0:∀t,dF (st 0).tick ((st 0).look t)=true)(hj:j<=N)(t:Nat):dF (st j).tick ((st j).look t)=true:=by
 rw[ym h t j hj];rcases lc (D:=λ_=>true) (wr:=xa rc t) (v:=λi=>(rc i).val t) (b0:=(st 0).look t) (N:=j)with e|⟨i,h1,_,h3,e⟩
 ·rw[e];exact iH (jS h 0 j (by omega) hj).tick (h0 t)
 ·rw[e];exact iH (yo h h1 hj) ((h i (by omega)).rg t h3).2
theorem K0(h:∀j,j<N->Uv ops st rc j)(h0:∀d s x,ao (st 0).b d=some (s,x)->x.E6 (st 0).tick=true)(hj:j<=N)(d s:Nat)(x:B U.C)(hx:ao (st j).b d=some (s,x)):x.E6 (st j).tick=true:=by
 rw[yn h d j hj]at hx;rcases lc (D:=λ_=>true) (wr:=D7 rc d) (v:=λi=>ao (rc i).s1.b d) (b0:=ao (st 0).b d) (N:=j)with e|⟨i,h1,_,h3,e⟩
 ·rw[e]at hx;exact B.pr (jS h 0 j (by omega) hj).tick (h0 d s x hx)
 ·rw[e]at hx;simp only[D7,aD]at h3;exact B.pr (yo h h1 hj) ((h i (by omega)).bx h3.1 d s x hx).2.2.2
theorem IL{D:Nat->Bool}{s0:S U.C}(h0:∀t s x,ao s0.r t=some (s,x)->s<s0.tick)(hp:0<s0.tick):∀N t s x,ao (sig rc D s0 N).r t=some (s,x)->s<s0.tick
 |0,t,s,x,h=>h0 t s x h|N+1,t,s,x,h=>by
  simp only[sig]at h;cases hD:D N with
  |false=>rw[hD]at h;exact IL h0 hp N t s x h|true=>
   rw[hD]at h;simp only[ba,S.Uq]at h;have ZV:ao (lT 0 (rc N).lost (sig rc D s0 N).r) t=some (s,x)->s<s0.tick:=λh=>by
    rw[fp]at h;split at h
    ·simp only[ah,aS]at h;omega
    ·exact IL h0 hp N t s x h
   cases hd:(rc N).dst with
   |none=>rw[hd]at h;exact ZV h|some d=>
    rw[hd]at h;simp only[aI]at h;split at h
    ·simp only[ah,aS]at h;omega
    ·exact ZV h
theorem K1{s0:S U.C}{D:Nat->Bool}:∀N,(∀i,i<N->D i=false)->sig rc D s0 N=s0
 |0,_=>rfl|N+1,h=>by simp only[sig,h N (D3 N),bc];exact K1 N λi hi=>h i (by omega)
end
section
variable{P:Program}{E:Env}{U:cm}{T:da U.C}{X:Ctx U}{w0:World}{I0:Cells}{n:Nat}{α:Type}{out:α}{esc:List (Nat×Nat)}{ops:Array Oper}
theorem gW(h:Dr ops=true){k:Nat}{ok:Oper}(hk:ops[k]?=some ok):
  (∀e∈ok.after,Region.binds .any e=true->e.on<k)/\(∀i oi,ops[i]?=some oi->i≠k->∀t∈iy ok,t∉oi.looksAt ops)/\∀i oi,i<k->ops[i]?=some oi->((Region.before ops).getD k 0).testBit i=true∨oi.apart ops ok=true:=by
 have eK:k<ops.size:=(eT.1 hk).1;unfold Dr at h;have:=cJ.1 h k (nT.2 eK);simp only[hk,aD]at this;obtain⟨⟨⟨h1,_⟩,h3⟩,h4⟩:=this;refine⟨λe he hb=>?_,λi oi hoi dA t ht eK=>?_,λi oi hik hoi=>?_⟩
 ·have:=Array.all_eq_true_iff_forall_mem.1 h1 e he;simpa[hb]using this
 ·have ui:i<ops.size:=(eT.1 hoi).1;have:=cJ.1 h3 i (nT.2 ui);simp only[hoi,lP,cJ]at this;rcases this with h5|h5
  ·exact dA (bM h5)
  ·have:=h5 t ht;rw[bU.2 eK]at this;cases this
 ·have:=cJ.1 h4 i (nT.2 hik);simp only[hoi,lP]at this;exact this
theorem FC(h:i<aB.size):(aB.setIfInBounds i true).getD i false=true:=by simp[h]
theorem D9(h:i≠j):(aB.setIfInBounds i true).getD j false=aB.getD j false:=getD_set_ne false h
theorem XQ(hi:i<aB.size)(h:aB.getD i false=false):aB.getD i true=false:=by simp[hi]at h⊢;exact h
theorem Bq(h:t∈iy o):t∈o.looksAt ops:=by
 unfold iy at h;split at h
 ·rename_i args argTypes ho;split at h
  ·rename_i t' y ha;simp only[mX]at h;subst h;unfold Oper.looksAt;refine List.mem_append_left _ ?_;rw[ho];simp only[Op.operands,Call.operands];refine HH.2 ⟨.tmp t,?_,rfl⟩;simp[ha]
  ·cases h
 ·cases h
theorem wx{o:Oper}{d:Nat}:∀{l:List Oper},o∈l->d∈dS o->d∈zB l
 |[],h,_=>by cases h
 |o'::l,h,hd=>by
  simp only[zB,dt];rcases c6.1 h with rfl|h
  ·exact .inl hd
  ·exact .inr (wx h hd)
variable(L:Lawful U T)
include L in
theorem oP(FD:P.follows .mixedOrders=true)(hX:bG P E T X){sB:S U.C}:D2 P E T X w0 I0 n esc sB out:=by
 intro hE id ops s K q0 Q Z ax hLB h hS hQ;unfold Ic at h;obtain⟨WG,h⟩:=aq h;split at h;case h_2=>cases h
 rename_i s0 sk;obtain⟨Sq,hL0,hm0,_,_,aeA⟩:=Pn sk hS;obtain⟨st,rc,e0,eN,cY⟩:=KX (w0:=w0) (I0:=I0) (n:=n) (T:=T) L hX (m0:=s0.m) (by rw[hm0,hLB.m];exact hE) ax ops.toList 0 [] s0 (λj=>by simp) rfl h;have hlen:ops.toList.length=ops.size:=by simp
 rw[cS,hlen]at eN;obtain⟨N,hN⟩:∃N,N=ops.size:=⟨_,rfl⟩
 rw[<-hN]at eN;have K2:∀j,j<N->(rc j).f.i=j/\(∃o,ops[j]?=some o/\Did P E T X w0 I0 n esc ops j o (st j) (st (j+1)) (rc j))/\∀k,k<j->Pr ((Region.before ops).getD j 0) (rc j) (rc k):=λj hj=>by obtain⟨g1,g2,_,g4⟩:=cY j (eC _) (by rw[hlen];omega);exact⟨g1,g2,λk hk=>g4 k (eC _) hk⟩
 clear cY h;have B4:∀j,j<N->Uv ops st rc j:=λj hj=>by obtain⟨o,_,hd⟩:=(K2 j hj).2.1;exact XN L hd
 have s0R:∀t s x,ao (st 0).r t=some (s,x)->s<(st 0).tick:=by rw[e0];exact Sq.Ci
 have s0B:∀t s x,ao (st 0).b t=some (s,x)->s<(st 0).tick:=by rw[e0];exact Sq.Fw
 have v0R:∀t,dF (st 0).tick ((st 0).look t)=true:=by rw[e0];exact λt=>(Sq.cr t).dF
 have v0B:∀d s x,ao (st 0).b d=some (s,x)->x.E6 (st 0).tick=true:=by rw[e0];intro d s x hx;have:=Sq.boxes d;rw[hx]at this;exact this.E6
 obtain⟨tE,htE⟩:∃tE,tE=(st N).tick+1:=⟨_,rfl⟩
 have tkN:∀j,j<=N->(st j).tick<tE:=λj hj=>by have:=(jS B4 j N hj (aP _)).tick;omega
 have tk1:∀j,j<N->(rc j).s1.tick<tE:=λj hj=>by have:=(B4 j hj).tick;have:=tkN (j+1) hj;omega
 obtain⟨z,hz⟩:∃z:S U.C,z={s0 with tick:=tE}:=⟨_,rfl⟩
 have zt:z.tick=tE:=by rw[hz]
 have zm:z.m=s0.m:=by rw[hz]
 have zl:∀t,z.look t=(st 0).look t:=λt=>by rw[hz,e0];rfl
 have zb:z.b=(st 0).b:=by rw[hz,e0]
 have zh:z.h=(st 0).h:=by rw[hz,e0]
 have zR:∀t s x,ao z.r t=some (s,x)->s<z.tick:=λt s x hx=>by have:=s0R t s x (by rw[e0];rw[hz]at hx;exact hx);have:=tkN 0 (eC _);omega
 have hSz:aN P E T X z q0:=by
  refine Sq.KY (λt=>.inl (by rw[zl,e0])) (λd=>.inl (by rw[zb,e0])) zR (λd s x hx=>?_) (λt=>?_) (λd s x hx=>?_) λk _ hm=>⟨by rw[<-zm];exact hm,by rw[zh,e0]⟩
  ·rw[zb]at hx;have:=s0B d s x hx;have:=tkN 0 (eC _);omega
  ·rw[zl,zt];exact iH (j7 (tkN 0 (eC _))) (v0R t)
  ·rw[zb]at hx;rw[zt];exact B.pr (j7 (tkN 0 (eC _))) (v0B d s x hx)
 have sgL:∀D t,(sig rc D z N).look t=gp D (xa rc t) (λi=>(rc i).val t) ((st 0).look t) N:=λD t=>by rw[KW,zl]
 have sgB:∀D d,ao (sig rc D z N).b d=gp D (D7 rc d) (λi=>ao (rc i).s1.b d) (ao (st 0).b d) N:=λD d=>by
  rw[Pl d N λi hi hw hl=>?_,zb];cases E4:ao (rc i).s1.b d with
  |none=>exact (hl E4).elim|some e=>obtain ⟨s,x⟩:=e;exact ((B4 i hi).bx hw d s x E4).1
 have sgH:∀D k,U.get k (sig rc D z N).h=gp D (KV rc k) (λi=>U.get k (rc i).s1.h) (U.get k (st 0).h) N:=λD k=>by rw[Pm L,zh]
 have sgT:∀D,(sig rc D z N).tick=tE:=λD=>by rw[D6,zt]
 have sgM:∀D,(sig rc D z N).m=s0.m:=λD=>by rw[Ur,zm]
 have sgR:∀D t s x,ao (sig rc D z N).r t=some (s,x)->s<(sig rc D z N).tick:=λD t s x hx=>by rw[sgT,<-zt];exact IL zR (by rw[zt];omega) N t s x hx
 have wb:∀d i,D7 rc d i=true->(rc i).f.w=true/\d∈(rc i).f.bs:=λd i h=>by simp only[D7,aD]at h;exact⟨h.1,bU.1 h.2⟩
 have wb':∀d i,((rc i).f.w=true/\d∈(rc i).f.bs)↔D7 rc d i=true:=λd i=>⟨λh=>by simp[D7,h.1,bU.2 h.2],wb d i⟩
 have wh:∀k i,KV rc k i=true->(rc i).f.w=true/\k∈(rc i).f.ks:=λk i h=>by simp only[KV,aD]at h;exact⟨h.1,bU.1 h.2⟩
 have wh':∀k i,((rc i).f.w=true/\k∈(rc i).f.ks)↔KV rc k i=true:=λk i=>⟨λh=>by simp[KV,h.1,bU.2 h.2],wh k i⟩
 have wr:∀t i,xa rc t i=true↔(rc i).dst=some t∨t∈(rc i).lost:=λt i=>by simp[xa,bU]
 refine XL FD ax (λaB q=>aB.size=N/\vN ops aB/\aN P E T X (sig rc (λi=>aB.getD i false) z N) q) ?_ ?_ ?_
 ·
  intro aB q ⟨dh,sk,XR⟩ j hj;obtain⟨hun,o,ho,ah7⟩:=mem_ready.1 hj;have E8:j<N:=by rw[hN];exact (eT.1 ho).1
  have Ss:aB.getD j false=false:=OA hun;obtain⟨_,⟨o',Jr,abx⟩,abz⟩:=K2 j E8;rw[ho]at Jr;cases Jr;refine⟨o,ho,?_⟩;have un1:∀i,i<j->aB.getD i false=false->((Region.before ops).getD j 0).testBit i=false:=λi hi hD=>by
   cases hb:((Region.before ops).getD j 0).testBit i with
   |false=>rfl|true=>rw[AR sk (rG hb) hj]at hD;cases hD
  have un2:∀i,j<i->aB.getD i false=true->((Region.before ops).getD i 0).testBit j=false:=λi hi hD=>by
   cases hb:((Region.before ops).getD i 0).testBit j with
   |false=>rfl|true=>rw[xB sk (rG hb) (HI hD)]at Ss;cases Ss
  have fi:∀i,i<N->(rc i).f.i=i:=λi hi=>(K2 i hi).1;have ap1:∀i,i<j->aB.getD i false=false->((rc i).f.w=true∨(rc j).f.w=true)->(∀d,d∈(rc j).f.bs->d∉(rc i).f.bs)/\∀k,k∈(rc j).f.ks->k∉(rc i).f.ks:=λi hi hD hw=>by
   rcases(abz i hi).1 with e|e
   ·rw[fi i (by omega),un1 i hi hD]at e;cases e
   ·exact e (by simpa[or_comm]using hw)
  have ZW:∀i,j<i->i<N->aB.getD i false=true->((rc i).f.w=true∨(rc j).f.w=true)->(∀d,d∈(rc i).f.bs->d∉(rc j).f.bs)/\∀k,k∈(rc i).f.ks->k∉(rc j).f.ks:=λi hi hiN hD hw=>by
   rcases((K2 i hiN).2.2 j hi).1 with e|e
   ·rw[fi j E8,un2 i hi hD]at e;cases e
   ·exact e (by simpa using hw)
  have XS:∀i,i<N->∃oi,ops[i]?=some oi/\(rc i).dst=oi.dst/\∀t∈(rc i).lost,t∈iy oi:=λi hi=>by
   obtain⟨oi,h1,h2⟩:=(K2 i hi).2.1;refine⟨oi,h1,?_⟩;cases h2 with
   |run _ _ hd za=>exact ⟨hd,λt ht=>by rw[<-za];exact ht⟩|skip _ _ hd za=>exact ⟨hd,λt ht=>by rw[za]at ht;cases ht⟩
  have hdj:(rc j).dst=o.dst:=by obtain⟨oi,h1,h2,_⟩:=XS j E8;rw[ho]at h1;cases h1;exact h2
  have ah8:∀t∈(rc j).lost,t∈iy o:=by obtain⟨oi,h1,_,h2⟩:=XS j E8;rw[ho]at h1;cases h1;exact h2
  have rg1:∀i,i<j->aB.getD i false=false->∀t,xa rc t i=true->t∉o.looksAt ops:=λi hi hD t ht hto=>by
   obtain⟨oi,h1,h2,h3⟩:=XS i (by omega);rcases(wr t i).1 ht with ht|ht
   ·rcases (gW WG ho).2.2 i oi hi h1 with e|e
    ·rw[un1 i hi hD]at e;cases e
    ·exact (C1 e).1 t (by rw[<-h2];exact ht) hto
   ·exact (gW WG h1).2.1 j o ho (by omega) t (h3 t ht) hto
  have rg2:∀i,j<i->i<N->aB.getD i false=true->∀t,xa rc t i=true->t∉o.looksAt ops/\xa rc t j=false:=λi hi hiN hD t ht=>by
   obtain⟨oi,h1,h2,h3⟩:=XS i hiN;have hap:oi.apart ops o=true∨o.apart ops oi=true:=by
    rcases(gW WG h1).2.2 j o hi ho with e|e
    ·rw[un2 i hi hD]at e;cases e
    ·exact .inr e
   have e:o.apart ops oi=true:=by
    rcases(gW WG h1).2.2 j o hi ho with e|e
    ·rw[un2 i hi hD]at e;cases e
    ·exact e
   have pW:t∉o.looksAt ops:=by
    rcases(wr t i).1 ht with ht|ht
    ·exact (C1 e).2.2 t (by rw[<-h2];exact ht)
    ·exact (gW WG h1).2.1 j o ho (by omega) t (h3 t ht)
   refine⟨pW,?_⟩;cases Js:xa rc t j with
   |false=>rfl|true=>
    exfalso;rcases(wr t j).1 Js with Js|Js
    ·rw[hdj]at Js;rcases(wr t i).1 ht with ht|ht
     ·exact (C1 e).2.1 t Js (by rw[<-h2];exact ht)
     ·exact (C1 e).1 t Js (Bq (h3 t ht))
    ·exact pW (Bq (ah8 t Js))
  have inL:∀t,t∈o.looksAt ops->(sig rc (λi=>aB.getD i false) z N).look t=(st j).look t:=λt ht=>by
   rw[sgL,ym B4 t j (j7 E8),<-yi (j7 E8)];refine gN λi hi hw=>?_;rcases tQ i j with h|h|h
   ·rw[wy h];cases hD:aB.getD i false with
    |true=>rfl|false=>exact (rg1 i h hD t hw ht).elim
   ·subst h;rw[Ss];simp
   ·rw[mZ (by omega)];cases hD:aB.getD i false with
    |false=>rfl|true=>exact ((rg2 i h hi hD t hw).1 ht).elim
  have inB:∀d,d∈(rc j).f.bs->ao (sig rc (λi=>aB.getD i false) z N).b d=ao (st j).b d:=λd hd=>by
   rw[sgB,yn B4 d j (j7 E8),<-yi (j7 E8)];refine gN λi hi hw=>?_;obtain⟨E3,hw2⟩:=wb d i hw;rcases tQ i j with h|h|h
   ·rw[wy h];cases hD:aB.getD i false with
    |true=>rfl|false=>exact ((ap1 i h hD (.inl E3)).1 d hd hw2).elim
   ·subst h;rw[Ss];simp
   ·rw[mZ (by omega)];cases hD:aB.getD i false with
    |false=>rfl|true=>exact ((ZW i h hi hD (.inl E3)).1 d hw2 hd).elim
  have inH:∀k,k∈(rc j).f.ks->U.get k (sig rc (λi=>aB.getD i false) z N).h=U.get k (st j).h:=λk hk=>by
   rw[sgH,IJ B4 k j (j7 E8),<-yi (j7 E8)];refine gN λi hi hw=>?_;obtain⟨E3,hw2⟩:=wh k i hw;rcases tQ i j with h|h|h
   ·rw[wy h];cases hD:aB.getD i false with
    |true=>rfl|false=>exact ((ap1 i h hD (.inl E3)).2 k hk hw2).elim
   ·subst h;rw[Ss];simp
   ·rw[mZ (by omega)];cases hD:aB.getD i false with
    |false=>rfl|true=>exact ((ZW i h hi hD (.inl E3)).2 k hw2 hk).elim
  have D':∀i,i≠j->(aB.setIfInBounds j true).getD i false=aB.getD i false:=λi hi=>D9 (c5 hi);have Dj':(aB.setIfInBounds j true).getD j false=true:=FC (by rw[dh];exact E8);have ouL:∀t,(sig rc (λi=>(aB.setIfInBounds j true).getD i false) z N).look t=if xa rc t j=true then(rc j).val t else(sig rc (λi=>aB.getD i false) z N).look t:=λt=>by rw[sgL,sgL,uF (D:=λi=>aB.getD i false) D' Dj' E8 λIM i h1 h2 h3 h4=>?_];rw[(rg2 i h1 h2 h3 t h4).2]at IM;cases IM
  have ouB:∀d,ao (sig rc (λi=>(aB.setIfInBounds j true).getD i false) z N).b d=if(rc j).f.w=true/\d∈(rc j).f.bs then ao (rc j).s1.b d else ao (sig rc (λi=>aB.getD i false) z N).b d:=λd=>by
   rw[sgB,sgB,uF (D:=λi=>aB.getD i false) D' Dj' E8 λIM i h1 h2 h3 h4=>?_]
   ·by_cases e:(rc j).f.w=true/\d∈(rc j).f.bs
    ·rw[ap e,ap ((wb' d j).1 e)]
    ·rw[ai e,ai λh=>e (wb d j h)]
   ·obtain ⟨a1,a2⟩:=wb d j IM;obtain⟨b1,b2⟩:=wb d i h4;exact(ZW i h1 h2 h3 (.inl b1)).1 d b2 a2
  have ouH:∀k,U.get k (sig rc (λi=>(aB.setIfInBounds j true).getD i false) z N).h=if(rc j).f.w=true/\k∈(rc j).f.ks then U.get k (rc j).s1.h else U.get k (sig rc (λi=>aB.getD i false) z N).h:=λk=>by
   rw[sgH,sgH,uF (D:=λi=>aB.getD i false) D' Dj' E8 λIM i h1 h2 h3 h4=>?_]
   ·by_cases e:(rc j).f.w=true/\k∈(rc j).f.ks
    ·rw[ap e,ap ((wh' k j).1 e)]
    ·rw[ai e,ai λh=>e (wh k j h)]
   ·obtain ⟨a1,a2⟩:=wh k j IM;obtain⟨b1,b2⟩:=wh k i h4;exact(ZW i h1 h2 h3 (.inl b1)).2 k b2 a2
  have aeB:=sk.set hj;have aeC:(aB.setIfInBounds j true).size=N:=by simp[dh]
  have want:∀b,yj P E T ops o (st j) b->fm ops o q=some b:=λb hw=>hw _ _ _ q λt ht=>by rw[<-inL t ht];exact XR.cr t
  cases abx with
  |skip s1 al hd za GP hf hc hw iX=>
   have IM:∀t,xa rc t j=true↔o.dst=some t:=λt=>by rw[wr,za,hd];simp
   refine .inr ⟨want _ hw,aeC,aeB,?_⟩;have hp:=XR.put o.dst (r:=qQ) (u:=.fb []) (.fb [] [] rfl λi r q hr=>by simp at hr);refine hp.KY (λt=>.inl ?_) (λd=>.inl ?_) (sgR _) (λd s x hx=>?_) (λt=>?_) (λd s x hx=>?_) λk _ hm=>⟨?_,?_⟩
   ·rw[ouL,tP];by_cases e:o.dst=some t
    ·rw[ap ((IM t).2 e),ap e,Rec.val,hd,ap e,hc,tP,ap e]
    ·rw[ai (λh=>e ((IM t).1 h)),ai e]
   ·rw[ouB,hf];simp;cases o.dst<;>rfl
   ·rw[ouB,hf]at hx;simp only[gB,false_and,bY]at hx;have:=XR.Fw d s x hx;rw[sgT]at this⊢;exact this
   ·rw[ouL];by_cases e:o.dst=some t
    ·rw[ap ((IM t).2 e),Rec.val,hd,ap e,hc,tP,ap e];rfl
    ·rw[ai (λh=>e ((IM t).1 h))];have:=(XR.cr t).dF;rw[sgT]at this⊢;exact this
   ·rw[ouB,hf]at hx;simp only[gB,false_and,bY]at hx;have hb:=XR.boxes d;rw[hx]at hb;have:=hb.E6;rw[sgT]at this⊢;exact this
   ·rw[sgM]at hm;cases o.dst<;>(simp only[S.put];rw[sgM];exact hm)
   ·rw[ouH,hf];simp;cases o.dst<;>rfl
  |run s1 al hd za GP hf ah9 hL hs hw iX=>
   have aia:∀t,(sig rc (λi=>(aB.setIfInBounds j true).getD i false) z N).look t=if o.dst=some t then(rc j).s1.look t else if t∈iy o then .none else(sig rc (λi=>aB.getD i false) z N).look t:=λt=>by
    rw[ouL];by_cases e:o.dst=some t
    ·rw[ap ((wr t j).2 (.inl (by rw[hd];exact e))),ap e,Rec.val,hd,ap e]
    ·rw[ai e];by_cases e2:t∈iy o
     ·rw[ap ((wr t j).2 (.inr (by rw[za];exact e2))),ap e2,Rec.val,hd,ai e]
     ·rw[ai e2,ai λh=>by
       rcases(wr t j).1 h with h|h
       ·rw[hd]at h;exact e h
       ·rw[za]at h;exact e2 h]
   refine .inl ⟨want _ hw,?_⟩;have XT:∀d∈dS o,d∈(rc j).f.bs:=λd hd=>by rw[hf];exact List.mem_append_right _ hd
   have tj:(st 0).tick<=s1.tick:=dI (jS B4 0 j (eC _) (j7 E8)).tick al.tick;have ti:∀i,i<j->(rc i).s1.tick<=s1.tick:=λi hi=>dI (yo B4 hi (j7 E8)) al.tick;have pl:∀t,(s1.only (jz ops o) (rc j).f.bs (rc j).f.ks).look t=if t∈jz ops o then(st j).look t else .none:=λt=>by
    rw[<-al.look];unfold S.look S.only;simp only[gL];by_cases e:t∈jz ops o
    ·simp[e]
    ·simp[e]
   have pb:∀d,ao (s1.only (jz ops o) (rc j).f.bs (rc j).f.ks).b d=if d∈(rc j).f.bs then ao (st j).b d else none:=λd=>by rw[<-al.b];unfold S.only;simp only[gL]
   have pm:∀k,(s1.only (jz ops o) (rc j).f.bs (rc j).f.ks).m k=(s0.m k&&iM k (rc j).f.ks):=λk=>by
    have:s1.m=s0.m:=by rw[al.m,(jS B4 0 j (eC _) (j7 E8)).m,e0]
    simp only[S.only,this]
   have hSP:aN P E T X (s1.only (jz ops o) (rc j).f.bs (rc j).f.ks) q:=by
    refine XR.KY (λt=>?_) (λd=>?_) (λt s x hx=>?_) (λd s x hx=>?_) (λt=>?_) (λd s x hx=>?_) λk _ hm=>?_
    ·rw[pl];by_cases e:t∈jz ops o
     ·rw[ap e];exact .inl (inL t e).symm
     ·rw[ai e];exact .inr rfl
    ·rw[pb];by_cases e:d∈(rc j).f.bs
     ·rw[ap e];exact .inl (inB d e).symm
     ·rw[ai e];exact .inr rfl
    ·simp only[S.only,gL]at hx;split at hx
     ·exact al.Ci (IK B4 s0R j (j7 E8)) t s x hx
     ·cases hx
    ·rw[pb]at hx;split at hx
     ·have:=Po B4 s0B (j7 E8) d s x hx;have:=al.tick;show s<s1.tick;omega
     ·cases hx
    ·rw[pl];split
     ·exact iH al.tick (KZ B4 v0R (j7 E8) t)
     ·rfl
    ·rw[pb]at hx;split at hx
     ·exact B.pr al.tick (K0 B4 v0B (j7 E8) d s x hx)
     ·cases hx
    ·rw[pm]at hm;simp only[aD]at hm;refine⟨by rw[sgM];exact hm.1,?_⟩;rw[inH k (bU.1 hm.2),<-al.h];rfl
   intro a w hR R;refine lO (λa' w' ⟨q1,g1,g2,g3⟩=>⟨q1,g1,aeC,aeB,?_⟩) (hs q hSP a w hR R);refine Rz XR g2 g3 hL ah9 (λk=>by rw[pm,sgM]) (λd hd=>by rw[pb,ap hd,inB d hd]) (λd hd=>by rw[pb,ai hd]) XT aia ouB ouH (by rw[sgM,sgM]) (by rw[sgT,sgT]) (by rw[sgT];exact j7 (tk1 j E8)) (sgR _) ?_ ?_ ?_ ?_
   ·intro IM t hnt d hd WI;show dF s1.tick _=true;rw[sgL]at WI⊢;rcases lc (D:=λi=>aB.getD i false) (wr:=xa rc t) (v:=λi=>(rc i).val t) (b0:=(st 0).look t) (N:=N)with e|⟨i,h1,h2,h3,e⟩
    ·rw[e];exact iH tj (v0R t)
    ·rw[e]at WI⊢;obtain⟨r1,r2⟩:=(B4 i h1).rg t h3;rcases tQ i j with h|h|h
     ·exact iH (ti i h) r2
     ·subst h;rw[Ss]at h2;cases h2
     ·exact ((ZW i h h1 h2 (.inr IM)).1 d (r1 d WI) hd).elim
   ·intro IM d jh x hx tM d' fF yU;show x.E6 s1.tick=true;rw[sgB]at hx;rcases lc (D:=λi=>aB.getD i false) (wr:=D7 rc d) (v:=λi=>ao (rc i).s1.b d) (b0:=ao (st 0).b d) (N:=N)with e|⟨i,h1,h2,h3,e⟩
    ·rw[e]at hx;exact B.pr tj (v0B d jh x hx)
    ·rw[e]at hx;obtain⟨w1,w2⟩:=wb d i h3;obtain⟨_,_,r3,r4⟩:=(B4 i h1).bx w1 d jh x hx;rcases tQ i j with h|h|h
     ·exact B.pr (ti i h) r4
     ·subst h;rw[Ss]at h2;cases h2
     ·exact ((ZW i h h1 h2 (.inr IM)).1 d' (r3 d' yU) fF).elim
   ·intro IM t hnt d hd;cases WI:((sig rc (λi=>aB.getD i false) z N).look t).mentions d with
    |false=>rfl|true=>
     exfalso;rw[sgL]at WI;rcases lc (D:=λi=>aB.getD i false) (wr:=xa rc t) (v:=λi=>(rc i).val t) (b0:=(st 0).look t) (N:=N)with e|⟨i,h1,h2,h3,e⟩
     ·rw[e,e0]at WI;have:d∈zB ops.toList:=by exact wx (by simpa using nB ho) hd
      rw[(aeA d this).1 t]at WI;cases WI
     ·rw[e]at WI;have r1:=((B4 i h1).rg t h3).1 d WI;rcases tQ i j with h|h|h
      ·exact (abz i h).2 d (by rw[GP];exact hd) r1
      ·subst h;rw[Ss]at h2;cases h2
      ·exact (ZW i h h1 h2 (.inr IM)).1 d r1 (XT d hd)
   ·intro IM d jh x hx tM d' fF;cases yU:x.mentions d' with
    |false=>rfl|true=>
     exfalso;rw[sgB]at hx;rcases lc (D:=λi=>aB.getD i false) (wr:=D7 rc d) (v:=λi=>ao (rc i).s1.b d) (b0:=ao (st 0).b d) (N:=N)with e|⟨i,h1,h2,h3,e⟩
     ·rw[e,e0]at hx;have:d'∈zB ops.toList:=by exact wx (by simpa using nB ho) fF
      rw[(aeA d' this).2 d jh x hx]at yU;cases yU
     ·rw[e]at hx;obtain⟨w1,w2⟩:=wb d i h3;obtain⟨_,_,r3,_⟩:=(B4 i h1).bx w1 d jh x hx;rcases tQ i j with h|h|h
      ·exact (abz i h).2 d' (by rw[GP];exact fF) (r3 d' yU)
      ·subst h;rw[Ss]at h2;cases h2
      ·exact (ZW i h h1 h2 (.inr IM)).1 d' (r3 d' yU) (XT d' fF)
 ·
  intro aB q ⟨dh,sk,XR⟩ hr;have all:∀i,i<N->aB.getD i false=true:=by
   intro i;induction i using Nat.strongRecOn with
   |ind i ih=>
    intro hi;cases hD:aB.getD i false with
    |true=>rfl|false=>
     exfalso;have eK:i<ops.size:=by rw[<-hN];exact hi
     have:i∈Region.ready .any ops aB:=mem_ready.2 ⟨XQ (by rw[dh];exact hi) hD,ops[i],by simp[eK],λe he hb=>ih e.on ((gW WG (by simp[eK])).1 e he hb) (by have:=(gW WG (k:=i) (by simp[eK])).1 e he hb;omega)⟩;rw[hr]at this;cases this
  have ZX:=aP N;have eL:∀t,(st N).look t=(sig rc (λi=>aB.getD i false) z N).look t:=λt=>by rw[sgL,ym B4 t N ZX];exact gN λi hi _=>(all i hi).symm
  have eB:∀d,ao (st N).b d=ao (sig rc (λi=>aB.getD i false) z N).b d:=λd=>by rw[sgB,yn B4 d N ZX];exact gN λi hi _=>(all i hi).symm
  have eH:∀k,U.get k (st N).h=U.get k (sig rc (λi=>aB.getD i false) z N).h:=λk=>by rw[sgH,IJ B4 k N ZX];exact gN λi hi _=>(all i hi).symm
  have hLN:=jS B4 0 N (eC _) ZX;rw[e0]at hLN;refine hQ (st N) q ?_ (hL0.trans hLN) eN;exact XR.KY (λt=>.inl (eL t)) (λd=>.inl (eB d)) (IK B4 s0R N ZX) (λd s x hx=>Po B4 s0B ZX d s x hx) (λt=>KZ B4 v0R ZX t) (λd s x hx=>K0 B4 v0B ZX d s x hx) λk _ hm=>⟨by rw[sgM,<-hLN.m];exact hm,eH k⟩
 ·
  refine⟨by simp[hN],λk o hk hl e he hb=>?_,?_⟩
  ·have eK:k<ops.size:=(eT.1 hk).1;simp[eK]at hl
  ·rw[K1 N λi hi=>by have:i<ops.size:=by omega
                     simp[this]]
   exact hSz
end
section
variable{P:Program}{E:Env}{U:cm}{T:da U.C}{X:Ctx U}(L:Lawful U T)
include L
theorem Uw(FD:P.follows .mixedOrders=true){F:HL U.C ps->Option (iG U cG (HL U.C (rs.map RK.ty)))}(hX:bG P E T X)(hf:P.funcs[f]?=some fn)(kj:(fn.name== "runtime.NumGoroutine")=false)(hb:fn.body=some c)(hn:ps.length<=fn.ntmps)
  (hc:codeOk fn.ntmps c=true) (jX:lZ fn.ntmps fn.results.toList=true) (h0:U.C 0) (hF:∀x,Gm X ps rs cG esc fn.results.toList c hint x h0=F x):pn P E T f ps rs cG (.pure F):=
 XI L hX hf kj hb hn hc jX h0 (λ_ _ _ _=>oP L FD (re pZ (λ_=>rfl) hX)) hF
theorem abA(FD:P.follows .mixedOrders=true){F:HL U.C ps->U.C 0->Option (iG U cG (HL U.C (rs.map RK.ty))×U.C 0)}(hX:bG P E T X)(hf:P.funcs[f]?=some fn)(kj:(fn.name== "runtime.NumGoroutine")=false)(hb:fn.body=some c)(hn:ps.length<=fn.ntmps)
  (hc:codeOk fn.ntmps c=true) (jX:lZ fn.ntmps fn.results.toList=true) (hF:∀x h,Dx X ps rs cG esc fn.results.toList c hint x h=F x h):pn P E T f ps rs cG (.st F):=
 ZU L hX hf kj hb hn hc jX (λA I1 _ _ _ _=>oP L FD (re (p7 A I1) (λ_=>rfl) hX)) hF
end
end Go.X
namespace Go.Ev
open Go
variable{i bm since:Nat}{seen:List Nat}{es:List (AV×AV)}{o:Oper}{c:Option (List Nat×Nat)}
section
variable{P:Program}{E:Env}{w0:World}{I0:Cells}{n:Nat}{s:St}{a:Act}{w w':World}{I:Cells}{be:Nat->Option Nat}
structure Lone(E:Env)(w0 w:World)(I:Cells)(be:Nat->Option Nat)(s:St)(B:Nat):Prop where
 new:w0.heap.size<=B
 lt:B<w.heap.size
 mem:∀p,I p->p.block≠B
 bN:¬E.bN w B
 box:∀d,s.b d≠none->be d≠some B
 ob:∀j,s.a j≠none->I.ar j≠some B
theorem aC.ZY (h:aC P E w0 I0 n s a w I be) {B:Nat} (hB:Lone E w0 w I be s B) (Ay:w'.os=w.os) (ji:w'.tape=w.tape) (mJ:w'.output=w.output) (dh:w.heap.size<=w'.heap.size)
  (et:∀k,k≠B->k<w.heap.size->w'.heap[k]?=w.heap[k]?) (FM:∀B',Shape w w' B'):aC P E w0 I0 n s a w' I be:=by
 have hs:=h.since.step (I':=I) Ay ji mJ dh (λk=>k=B) (λk hk hm=>et k hm hk) (λk hk=>by subst hk;exact ⟨.inl hB.new,hB.bN⟩) FM (λ_ h=>h) rfl (λ_ h=>.inl h);have hc:cH w w' I I:=.world (λp v hp hv=>by rw[ct (et p.block (hB.mem p hp) (h.since.lt p hp))];exact hv) FM;have OV:∀d B',s.b d≠none->be d=some B'->w'.heap[B']?=w.heap[B']?:=λd B' hd cZ=>et B' (λe=>hB.box d hd (by rw[cZ,e])) (h.own d B' hd cZ).2.1;have hd:∀d,s.g d<s.g d∨(s.g d=s.g d/\eu P w w' be be s.b s.b d):=λd=>.inr ⟨rfl,.ib rfl rfl (λB' hn=>OV d B' hn)⟩;have hft:∀b,E.bN w' b->E.bN w b:=(E.stays w w' h.since.inv (λb hb=>et b (λe=>hB.bN (e▸hb)) (E.lt w b h.since.inv hb))).2;refine⟨hs,h.size,h.defers.mono hc,λt ht=>(h.cr t ht).dN hc hd,λd x hx=>(h.boxes d x hx).dN hc hd rfl (λB'=>OV d B' (by simp[hx])),h.inj,λd B' hd cZ=>?_,h.tie,h.fY hc rfl (λk=>k=B) (λi B' hi cZ e=>hB.ob i hi (by rw[cZ,e])) (λk hk hm=>et k hm hk) dh (λk hk=>by subst hk;exact hB.bN) (λ_ h=>.inl h) (λ_ h=>.inl h)⟩;obtain⟨q1,q2,q3,q4⟩:=h.own d B' hd cZ;exact⟨q1,gC q2 dh,q3,λhf=>q4 (hft _ hf)⟩
theorem aC.aic (h:aC P E w0 I0 n s a w I be) {B:Nat} (hB:Lone E w0 w I be s B) (Ay:w'.os=w.os) (ji:w'.tape=w.tape) (mJ:w'.output=w.output) (dh:w.heap.size<=w'.heap.size)
  (et:∀k,k≠B->k<w.heap.size->w'.heap[k]?=w.heap[k]?) (hnc:∀cur t fr,w.heap[B]?≠some (.cells cur t fr)):aC P E w0 I0 n s a w' I be:=
 h.ZY hB Ay ji mJ dh et λB' cur t fr hc=>by have dA:B'≠B:=λe=>hnc cur t fr (by rw[<-e];exact hc);exact⟨cur,(et B' dA (eT.1 hc).1).trans hc,rfl⟩
def Env.iter (E:Env) (B bm since:Nat) (seen:List Nat) (i:Nat) (x:Ob):Env where
 inv:=λw=>E.inv w/\¬E.bN w B/\w.heap[B]?=some (.mapIter (some bm) since seen.toArray since)
 bN:=λw b=>E.bN w b∨b=B
 stays:=λw w' ⟨h1,h2,h3⟩ hb=>by obtain⟨g1,g2⟩:=E.stays w w' h1 λb oD=>hb b (.inl oD);exact⟨⟨g1,λhf=>h2 (g2 B hf),(hb B (.inr rfl)).trans h3⟩,λb hb=>hb.imp (g2 b) id⟩
 lt:=λw b ⟨h1,h2,h3⟩ hb=>by
  rcases hb with hb|rfl
  ·exact E.lt w b h1 hb
  ·exact (eT.1 h3).1
 sG:=E.sG
 fixed:=E.fixed
 df:=E.df
 ro:=λj=>if j=i then some (x,bm)else none
 it:=B
theorem aC.enter (h:aC P E w0 I0 n s a w I be) {B:Nat} {x:Ob} (hB:Lone E w0 w I be s B) (hw:w.heap[B]?=some (.mapIter (some bm) since seen.toArray since)) (hi:s.a i=some x) (XU:I.ar i=some bm):
  aC P (E.iter B bm since seen i x) w0 I0 n s a w I be:=by
 have hs:=h.since;refine⟨⟨hs.os,hs.tape,hs.output,hs.size,λk hk hf hl=>hs.block k hk (λJt=>hf (.inl Jt)) hl,λb hb=>?_,⟨hs.inv,hB.bN,hw⟩,hs.more,hs.ar,hs.L1,hs.shape,hs.new,hs.lt,λp hp hf=>?_⟩,h.size,h.defers,h.cr,h.boxes,h.inj,λd B' hd cZ=>?_,h.tie,⟨h.aO.obj,h.aO.inj,λj B' hj cZ=>?_,h.aO.un,λj y hy=>?_⟩⟩
 ·rcases hb with hb|rfl
  ·exact (hs.bN b hb).imp .inl id
  ·exact .inr hB.new
 ·rcases hf with hf|hf
  ·exact hs.off p hp hf
  ·exact hB.mem p hp hf
 ·obtain ⟨q1,q2,q3,q4⟩:=h.own d B' hd cZ;refine⟨q1,q2,q3,λhf=>hf.elim q4 λe=>hB.box d hd (by rw[cZ,e])⟩
 ·obtain ⟨q1,q2,q3,q4,q5⟩:=h.aO.own j B' hj cZ;exact⟨q1,q2,q3,λhf=>hf.elim q4 λe=>hB.ob j hj (by rw[cZ,e]),q5⟩
 ·simp only[Env.iter]at hy;split at hy
  ·rename_i e;subst e;simp only[ah]at hy;subst hy;exact⟨hi,XU⟩
  ·cases hy
theorem aC.leave {B:Nat} {x:Ob} (h:aC P (E.iter B bm since seen i x) w0 I0 n s a w I be) (Ux:w0.heap.size<=B) (jX:∀j,E.ro j=none):aC P E w0 I0 n s a w I be:=by
 have hs:=h.since;refine⟨⟨hs.os,hs.tape,hs.output,hs.size,λk hk hf hl=>hs.block k hk (λJt=>Jt.elim hf λe=>by omega) hl,λb hb=>?_,hs.inv.1,hs.more,hs.ar,hs.L1,hs.shape,hs.new,hs.lt,λp hp hf=>hs.off p hp (.inl hf)⟩,h.size,h.defers,h.cr,h.boxes,h.inj,λd B' hd cZ=>?_,h.tie,⟨h.aO.obj,h.aO.inj,λj B' hj cZ=>?_,h.aO.un,λj y hy=>?_⟩⟩
 ·rcases hs.bN b (.inl hb)with(h1|h1)|h1
  ·exact .inl h1
  ·exact .inr (by omega)
  ·exact .inr h1
 ·obtain ⟨q1,q2,q3,q4⟩:=h.own d B' hd cZ;exact⟨q1,q2,q3,λhf=>q4 (.inl hf)⟩
 ·obtain ⟨q1,q2,q3,q4,q5⟩:=h.aO.own j B' hj cZ;exact⟨q1,q2,q3,λhf=>q4 (.inl hf),q5⟩
 ·rw[jX]at hy;cases hy
theorem aC.lone {B:Nat} {x:Ob} (h:aC P (E.iter B bm since seen i x) w0 I0 n s a w I be) (Ux:w0.heap.size<=B):Lone E w0 w I be s B:=⟨Ux,(eT.1 h.since.inv.2.2).1,λp hp e=>h.since.off p hp (.inr e),h.since.inv.2.1,λd hd hB=>(h.own d B hd hB).2.2.2 (.inr rfl),λj hj hB=>(h.aO.own j B hj hB).2.2.2.1 (.inr rfl)⟩
theorem aC.stamps (h:aC P E w0 I0 n s a w I be) (jX:∀j,E.ro j=none) (hi:s.a i=some (.map es c)):
  ∃bm cE clock,I.ar i=some bm/\w.heap[bm]?=some (.map cE clock)/\aC P E w0 I0 n {s with a:=bF s.a i (some (.map es (some (cE.toList.map (·.born),clock))))} a w I be:=by
 obtain⟨bm,XU,cE,clock,q1,q2,q2',q3,q4⟩:=h.aO.obj i _ hi;have hn:∀j,bF s.a i (some (.map es (some (cE.toList.map (·.born),clock)))) j≠none->s.a j≠none:=λj hj=>by
  by_cases e:j=i
  ·subst e;simp[hi]
  ·simpa only[ay _ _ e]using hj
 refine⟨bm,cE,clock,XU,q1,h.since,h.size,h.defers,h.cr,h.boxes,h.inj,h.own,h.tie,⟨λj x hj=>?_,λj k B h1 h2 h3 h4=>h.aO.inj j k B (hn j h1) (hn k h2) h3 h4,λj B hj hB=>h.aO.own j B (hn j hj) hB,h.aO.un,λj x hj=>by rw[jX]at hj;cases hj⟩⟩;by_cases e:j=i
 ·subst e;simp only[bA,ah]at hj;subst hj;exact⟨bm,XU,cE,clock,q1,q2,λp hp=>by cases hp;exact ⟨rfl,rfl⟩,q3,q4⟩
 ·simp only[ay _ _ e]at hj;exact h.aO.obj j x hj
theorem La{B:Nat}{bs:List Nat}(h:aC P (E.iter B bm since seen i (.map es (some (bs,since)))) w0 I0 n s a w I be):
  ∃cE:Array MapEntry,w.heap[bm]?=some (.map cE since)/\cE.toList.map (·.born)=bs/\cE.size=es.length/\(∀x∈cE.toList,x.born<since)/\(cE.toList.map (·.born)).Nodup/\∀(j:Nat)(e:AV×AV),es[j]?=some e->∃x,cE[j]?=some x/\cj w I x.key e.1/\cj w I x.val e.2:=by
 obtain⟨h1,h2⟩:=h.aO.ro i (.map es (some (bs,since)),bm) (by simp[Env.iter]);obtain⟨B',cZ,cE,clock,q1,q2,q2',q3,q4⟩:=h.aO.obj i _ h1;rw[h2]at cZ;injection cZ with cZ;subst cZ;obtain⟨e1,e2⟩:=q2' _ rfl;simp only at e1 e2;subst e2;refine⟨cE,q1,e1,q2,λx hx=>?_,?_,q4⟩
 ·obtain ⟨j,hj⟩:=lK.1 hx;exact(q3 j x (by simpa using hj)).1
 ·refine NF.2 λj k hj hk ZF e=>?_;simp only[cM,pN]at hj hk;simp only[List.getElem_map,Array.getElem_toList]at e;have h1:=(q3 j cE[j] (by simp[hj])).2 k cE[k] (by simp[hk]) e.symm;omega
theorem abB{cE:Array MapEntry}{bs:List Nat}(h:cE.toList.map (·.born)=bs){e:MapEntry}(he:e∈cE.toList):∃j:Nat,cE[j]?=some e/\bs[j]?=some e.born:=by obtain⟨j,hj⟩:=lK.1 he;refine⟨j,by simpa using hj,?_⟩;rw[<-h,dd,hj];rfl
theorem GS{x:Operand}(ho:o.op=.next x false){B:Nat}{bs:List Nat}(h:aC P (E.iter B bm since seen i (.map es (some (bs,since)))) w0 I0 n s a w I be)(Ux:w0.heap.size<=B)(jX:∀j,E.ro j=none)
  (hx:a.eval x=.pointer (some ⟨B,0,none⟩)):
  ((∀b∈bs,b∈seen)/\(execOp a.eval o).run P w=.ok (.value (.tuple #[.bool false])) w)∨
  ∃(j b:Nat)(w1:World)(k v:Value),bs[j]?=some b/\b∉seen/\(execOp a.eval o).run P w=.ok (.value (.tuple #[.bool true,k,v])) w1/\aC P (E.iter B bm since (seen++[b]) i (.map es (some (bs,since)))) w0 I0 n s a w1 I be:=by
 obtain⟨cE,hm,XT,dh,Uy,tM,OF⟩:=La h;have yS:=h.since.inv.2.2;have Ea:=h.lone Ux;have cu:(execOp a.eval o).run P w=((Instr.next (.pointer (some ⟨B,0,none⟩)) false o.type).run P w).andThen λv w=>.ok (.value v) w:=by simp only[execOp,ho,hx,bJ,b9]
 have anb:bm≠B:=λe=>by rw[e,yS]at hm;cases hm
 rw[cu];simp only[Instr.next,getObj,bJ,Sem.run,yS,hm,Result.andThen,next_test_false seen.toArray cE since since Uy (aP _),gB,bY];have Uz:∀x∈(Array.filter (λe=>!seen.toArray.contains e.born) cE).toList,x∈cE.toList/\x.born∉seen:=λx hx=>by simpa using hx
 have UB:(Array.filter (λe=>!seen.toArray.contains e.born) cE).size=0->∀b∈bs,b∈seen:=λh0 b hb=>by
  rw[<-XT]at hb;obtain⟨x,hx,rfl⟩:=cK.1 hb;refine JP λhn=>?_;have:x∈Array.filter (λe=>!seen.toArray.contains e.born) cE:=by simpa using⟨by simpa using hx,hn⟩
  rw[QJ h0]at this;simp at this
 generalize Array.filter (λe=>!seen.toArray.contains e.born) cE=L at Uz UB⊢;have pg:∀x∈L.toList,x.born<since:=λx hx=>Uy x (Uz x hx).1;have e1:L.filter (λx=>decide (x.born<since))=L:=Array.filter_eq_self.2 (λx hx=>by simpa using pg x (by simpa using hx));have e2:L.filter (λx=>decide (x.born≥since))=#[]:=by rw[Array.filter_eq_empty_iff];intro x hx;have:=pg x (by simpa using hx);simp;omega
 simp only[e1,e2,SR];by_cases h0:L.size=0
 ·left;refine⟨UB h0,?_⟩;have:L=#[]:=QJ h0;subst this;simp[choose,Sem.run,Question.forced]
 ·right;have dA:L.isEmpty=false:=by simp[Array.isEmpty,h0]
  simp only[dA,gB,bY,QH,Array.size_map];have hch:∃(j:Nat)(w1:World),j<L.size/\w1.heap=w.heap/\w1.os=w.os/\w1.output=w.output/\w1.tape=w.tape/\(choose (Question.mapNext L.size)).run P w=.ok j w1:=by
   by_cases hf:L.size<=1
   ·exact ⟨0,w,by omega,rfl,rfl,rfl,rfl,by simp[choose,Sem.run,Question.forced,hf]⟩
   ·exact ⟨_,w.drew,Nat.mod_lt _ (by omega),rfl,rfl,rfl,rfl,by simp only[choose,Sem.run,Question.forced,az,hf,bY,Question.cut];rfl⟩
  obtain⟨j,w1,hj,a1,a2,a3,a4,HV⟩:=hch;have hLm:L[j]∈L.toList:=by simp
  obtain⟨m1,m2⟩:=Uz _ hLm;obtain⟨jj,m3,m4⟩:=abB XT m1;have jV:(setObj B (.mapIter (some bm) since (seen.toArray.push L[j].born) since)).run P w1=.ok () {w1 with heap:=w1.heap.setIfInBounds B (.mapIter (some bm) since (seen.toArray.push L[j].born) since)}:=by simp only[setObj,Sem.run,a1,yS]
  refine⟨jj,L[j].born,{w1 with heap:=w1.heap.setIfInBounds B (.mapIter (some bm) since (seen.toArray.push L[j].born) since)},L[j].key,L[j].val,m4,m2,?_,?_⟩
  ·simp only[HV,Array.getElem?_map,sW hj,bQ,bJ,jV,Result.andThen];rfl
  ·have eK:=Ea.lt;have hl:=h.leave Ux jX;have jd:(w1.heap.setIfInBounds B (.mapIter (some bm) since (seen.toArray.push L[j].born) since))[B]?=some (.mapIter (some bm) since (seen.toArray.push L[j].born) since):=by simp[a1,eK]
   have qz:∀k,k≠B->(w1.heap.setIfInBounds B (.mapIter (some bm) since (seen.toArray.push L[j].born) since))[k]?=w.heap[k]?:=λk hk=>by simp[c5 hk,a1]
   have h2:=hl.aic (w':={w1 with heap:=w1.heap.setIfInBounds B (.mapIter (some bm) since (seen.toArray.push L[j].born) since)}) Ea a2 a4 a3 (by simp[a1]) (λk hk _=>qz k hk) (λcur t fr e=>by rw[yS]at e;cases e);obtain⟨r1,r2⟩:=h.aO.ro i (.map es (some (bs,since)),bm) (by simp[Env.iter]);refine h2.enter ⟨Ux,by simp[a1,eK],Ea.mem,λhf=>?_,Ea.box,Ea.ob⟩ (by rw[<-List.push_toArray];exact jd) r1 r2;have:=(E.stays w {w1 with heap:=w1.heap.setIfInBounds B (.mapIter (some bm) since (seen.toArray.push L[j].born) since)} hl.since.inv (λb hb=>qz b (λe=>Ea.bN (e▸hb)))).2 B hf;exact Ea.bN this
theorem NG{x:Operand}(ho:o.op=.entry x){B:Nat}{bs:List Nat}{j b:Nat}(h:aC P (E.iter B bm since (seen++[b]) i (.map es (some (bs,since)))) w0 I0 n s a w I be)(hb:bs[j]?=some b)
  (hx:a.eval x=.pointer (some ⟨B,0,none⟩)):
  ∃k v e,(execOp a.eval o).run P w=.ok (.value (.tuple #[k,v])) w/\es[j]?=some e/\cj w I k e.1/\cj w I v e.2:=by
 obtain⟨cE,hm,XT,dh,Uy,tM,OF⟩:=La h;have yS:=h.since.inv.2.2;have hj:j<cE.size:=by have:=(aV.1 hb).1;rw[<-XT]at this;simpa using this
 have hbj:cE[j].born=b:=by rw[<-XT]at hb;simpa[hj]using hb
 obtain⟨x',q1,q2,q3⟩:=OF j es[j] (by simp);have bV:x'=cE[j]:=by rw[sW hj]at q1;injection q1 with q1;exact q1.symm
 subst bV;refine⟨cE[j].key,cE[j].val,es[j],?_,by simp,q2,q3⟩;have hf:cE.find? (·.born==b)=some cE[j]:=by rw[<-Array.find?_toList,<-hbj];exact find_born cE[j] cE.toList tM (by simp)
 simp only[execOp,ho,hx,Instr.entry,getObj,bJ,Sem.run,yS,hm,Result.andThen];simp[hf,hm,Sem.run,Result.andThen]
theorem NH{t kt vt:TypeId}{x:Operand}(ho:o.op=.range t x)(ax:aJ n o=true)(hu:P.underlying t=some (.map kt vt))(h:aC P E w0 I0 n s a w I be)(jX:∀j,E.ro j=none)
  (hx:s.ev x=.val (.mp i)) (hi:s.a i=some (.map es c)):
  ∃(bm since:Nat)(bs:List Nat)(w1:World),bs.length=es.length/\bs.Nodup/\(execOp a.eval o).run P w=.ok (.value (.pointer (some ⟨w.heap.size,0,none⟩))) w1/\w0.heap.size<=w.heap.size/\aC P (E.iter w.heap.size bm since [] i (.map es (some (bs,since)))) w0 I0 n {s with a:=bF s.a i (some (.map es (some (bs,since))))} a w1 I be:=by
 have h1:=au ax (x:=x) (by simp[ho,Op.operands]) h;rw[hx]at h1;obtain⟨B,hB,e1⟩:=xJ (show cj w I (a.eval x) (.mp i)from h1);obtain⟨bm,cE,clock,XU,hm,hR⟩:=h.stamps jX hi;rw[hB]at XU;injection XU with XU;subst XU;obtain⟨B',cZ,AW,tv,q1,q2,q2',q3,q4⟩:=h.aO.obj i _ hi;rw[hB]at cZ;injection cZ with cZ;subst cZ;rw[hm]at q1;simp only[ah,Obj.map.injEq]at q1;obtain⟨rfl,rfl⟩:=q1;obtain⟨h',jd,⟨b1,b2,b3,b4,b5⟩,hg,Sz⟩:=hR.fresh (w':=w.alloc (.mapIter (some B) clock #[] clock)) (o:=.mapIter (some B) clock #[] clock) rfl rfl rfl rfl;refine⟨B,clock,cE.toList.map (·.born),_,by simp[q2],?_,?_,h.since.size,h'.enter ⟨h.since.size,b2,b3,b4,b5,λj hj=>Sz _ rfl j hj⟩ jd (bA _ _ _) hB⟩
 ·refine NF.2 λj k hj hk ZF e=>?_;simp only[cM,pN]at hj hk;simp only[List.getElem_map,Array.getElem_toList]at e;have h1:=(q3 j cE[j] (by simp[hj])).2 k cE[k] (by simp[hk]) e.symm;omega
 ·simp only[execOp,ho,e1,bJ,run_range_map w t kt vt B cE clock hu hm,Result.andThen];rfl
end
end Go.Ev
namespace Go.X
open Go Go.Ev
section
variable{A σ β:Type}
open Classical in
noncomputable def pv (n:Nat) (f:Nat->Option β):Option β:=if h:∃r,∀i,i<n->f i=some r then some (Classical.choose h)else none
theorem vm{n:Nat}{f:Nat->Option β}{r:β}(h:pv n f=some r)(i:Nat)(hi:i<n):f i=some r:=by
 unfold pv at h;split at h
 ·rename_i hh;injection h with h;rw[<-h];exact Eb hh i hi
 ·cases h
theorem Lb{n:Nat}{f:Nat->Option β}{r:β}(hn:0<n)(h:∀i,i<n->f i=some r):pv n f=some r:=by
 unfold pv;split
 ·rename_i hh;have:=(Eb hh 0 hn).symm.trans (h 0 hn);rw[this]
 ·rename_i hh;exact absurd ⟨r,h⟩ hh
noncomputable def m6 (step:A->σ->(σ->Option β)->Option β) (done:σ->Option β):Nat->List A->σ->Option β
 |0,_,st=>done st|n+1,left,st=>pv left.length λi=>(left[i]?).bind λx=>step x st λjh=>m6 step done n (left.eraseIdx i) jh
end
mutual
def R.pl {C:Nat->Type} (it:Bool):R C->Bool
 |.val t _=>fg t|.fb rs=>XV it rs
 |.fn _ rs=>XV it rs|.vc rs=>XV it rs
 |.sC r=>r.pl it|.agg _ rs=>XV it rs
 |.nz _ rs=>XV it rs|.it=>it
 |_=>true
def XV{C:Nat->Type}(it:Bool):List (R C)->Bool
 |[]=>true|r::rs=>r.pl it&&XV it rs
end
theorem p8{C:Nat->Type}{it:Bool}:∀{rs:List (R C)},XV it rs=true->∀r∈rs,r.pl it=true
 |[],_,r,hr=>by cases hr
 |x::rs,h,r,hr=>by
  simp only[XV,aD]at h;rcases c6.1 hr with rfl|hr
  ·exact h.1
  ·exact p8 h.2 r hr
def FE{C:Nat->Type}:R C->Bool
 |.it=>true|_=>false
theorem IN{C:Nat->Type}{r:R C}(h:FE r=true):r=.it:=by cases r<;>first|rfl|cases h
def B.pl {C:Nat->Type} (it:Bool):B C->Bool
 |.cells _ rs=>XV it rs|.aT _ _ _=>true
def S.pl {C:Nat->Type} (it:Bool) (s:S C):Bool:=s.r.all (λe=>e.2.2.pl it)&&s.b.all λe=>e.2.2.pl it
def Ctx.fix {U:cm} (X:Ctx U):Ctx U:={X with wr:=false,mA:=λ_=>[]}
structure RP where
 id1:Nat
 ops:Array Oper
 b:Nat
 id2:Nat
 nx:Array Oper
 tc:Nat
 b2:Nat
 id3:Nat
 en:Array Oper
 body:Code
def RP.code (p:RP):Code:=.seq (.region p.id1 p.ops false) (.block p.b (.loop (.seq (.region p.id2 p.nx false) (.seq (.cond (.tmp p.tc) .skip (.exit p.b)) (.block p.b2 (.seq (.region p.id3 p.en false) p.body))))))
def GU:Code->Option (Code×Code)
 |.seq a b=>some (a,b)|_=>none
def tR:Code->Option (Nat×Array Oper)
 |.region id ops false=>some (id,ops)|_=>none
def Cm:Code->Option (Nat×Code)
 |.block id a=>some (id,a)|_=>none
def NI:Code->Option Code
 |.loop a=>some a|_=>none
def NJ:Code->Option (Nat×Nat)
 |.cond (.tmp t) .skip (.exit b)=>some (t,b)|_=>none
theorem rX{c:Code}{r:Code×Code}(h:GU c=some r):c=.seq r.1 r.2:=by unfold GU at h;split at h<;>simp at h;subst h;rfl
theorem qj{c:Code}{r:Nat×Array Oper}(h:tR c=some r):c=.region r.1 r.2 false:=by unfold tR at h;split at h<;>simp at h;subst h;rfl
theorem yp{c:Code}{r:Nat×Code}(h:Cm c=some r):c=.block r.1 r.2:=by unfold Cm at h;split at h<;>simp at h;subst h;rfl
theorem Lc{c:Code}{r:Code}(h:NI c=some r):c=.loop r:=by unfold NI at h;split at h<;>simp at h;subst h;rfl
theorem Ld{c:Code}{r:Nat×Nat}(h:NJ c=some r):c=.cond (.tmp r.1) .skip (.exit r.2):=by unfold NJ at h;split at h<;>simp at h;subst h;rfl
def Ec(c:Code):Option RP:=(GU c).bind λc1=>(tR c1.1).bind λr1=>(Cm c1.2).bind λbl=>(NI bl.2).bind λlp=>(GU lp).bind λc2=>(tR c2.1).bind λr2=>(GU c2.2).bind λc3=>(NJ c3.1).bind λt=>(Cm c3.2).bind λb2=>(GU b2.2).bind λc4=>(tR c4.1).bind λr3=>bif Nat.beq t.2 bl.1 then some ⟨r1.1,r1.2,bl.1,r2.1,r2.2,t.1,b2.1,r3.1,r3.2,c4.2⟩else none
theorem Le{c:Code}{p:RP}(h:Ec c=some p):c=p.code:=by unfold Ec at h;obtain⟨c1,h1,h⟩:=bind_some h;obtain⟨r1,h2,h⟩:=bind_some h;obtain⟨bl,h3,h⟩:=bind_some h;obtain⟨lp,h4,h⟩:=bind_some h;obtain⟨c2,h5,h⟩:=bind_some h;obtain⟨r2,h6,h⟩:=bind_some h;obtain⟨c3,h7,h⟩:=bind_some h;obtain⟨t,h8,h⟩:=bind_some h;obtain⟨b2,h9,h⟩:=bind_some h;obtain⟨c4,tf,h⟩:=bind_some h;obtain⟨r3,Hw,h⟩:=bind_some h;obtain⟨JB,h⟩:=aq h;have JB:=bM JB;injection h with h;subst h;rw[rX h1,qj h2,yp h3,Lc h4,rX h5,qj h6,rX h7,Ld h8,yp h9,rX tf,qj Hw,JB];rfl
structure RO where
 e:TypeId
 x:Operand
 ti:Nat
 tn:Nat
 te:Nat
def Pp:List Oper->Option (TypeId×Operand×Nat)
 |[{dst:=some t,op:=.range e x,guard:=none,..}]=>some (e,x,t)|_=>none
def UC:List Oper->Option (Nat×Nat)
 |{dst:=some t,op:=.next (.tmp i) false,guard:=none,..}::_=>some (i,t)|_=>none
def Pq:List Oper->Option (Nat×Nat)
 |{dst:=some t,op:=.entry (.tmp i),guard:=none,..}::_=>some (i,t)|_=>none
def Ed:List Oper->List Oper
 |[]=>[]|[o]=>[o]
 |_::o::l=>Ed (o::l)
def l4:List Oper->List Oper
 |[]=>[]|[_]=>[]
 |o::o'::l=>o::l4 (o'::l)
def RP.ro (p:RP):Option RO:=(Pp (Ed p.ops.toList)).bind λr=>(UC p.nx.toList).bind λx=>(Pq p.en.toList).bind λe=>bif Nat.beq x.1 r.2.2&&Nat.beq e.1 r.2.2 then some ⟨r.1,r.2.1,r.2.2,x.2,e.2⟩else none
section
variable{U:cm}{α:Type}(X:Ctx U)(kx:tz U->S U.C->Option α)(esc:List (Nat×Nat))
def m7(ti:Nat)(s:S U.C):S U.C:={s with r:=bk s.r ti}
def rKx(ti:Nat)(p:tz U)(s2:S U.C):Option α:=bif (m7 ti s2).pl false then kx p (m7 ti s2)else none
def IP(ti:Nat)(k:Ex->S U.C->Option α)(e:Ex)(s2:S U.C):Option α:=bif (m7 ti s2).pl false then k e (m7 ti s2)else none
def GV(j:Sh)(s1:S U.C)(rec:HL U.C j.tys×HT U.C j.h->Option α)(s5:S U.C):Option α:=match j.save s1 s5 with
 |some x=>rec x|none=>none
noncomputable def vn (p:RP) (o:RO) (j:Sh) (hb:Hint) (s1:S U.C) (k:Ex->S U.C->Option α) (kt vt:Ty) (kv:den U.C kt×den U.C vt) (st:HL U.C j.tys×HT U.C j.h) (rec:HL U.C j.tys×HT U.C j.h->Option α):Option α:=
 bif (j.load s1 st).pl true&&FE ((j.load s1 st).look o.ti)then oM X.fix (rKx kx o.ti) esc p.nx p.nx.toList.tail ((j.load s1 st).put (some o.tn) (.fb [.val .bool true,.none,.none])) λs2=>match AY (s2.ev (.tmp p.tc))with
  |some true=>bif FE (s2.look o.ti)then oM X.fix (rKx kx o.ti) esc p.en p.en.toList.tail (s2.put (some o.te) (.fb [.val kt kv.1,.val vt kv.2])) λs4=>
    exec X.fix (rKx kx o.ti) esc p.body hb s4 λe s5=>match e with
     |.normal=>GV j s1 rec s5|.exit id=>bif Nat.beq id p.b2 then GV j s1 rec s5 else bif Nat.beq id p.b then IP o.ti k .normal s5 else IP o.ti k (.exit id) s5
     |.ret=>IP o.ti k .ret s5
   else none
  |_=>none
 else none
noncomputable def Br (p:RP) (o:RO) (j:Sh) (s1:S U.C) (k:Ex->S U.C->Option α) (st:HL U.C j.tys×HT U.C j.h):Option α:=
 bif (j.load s1 st).pl true&&FE ((j.load s1 st).look o.ti)then oM X.fix (rKx kx o.ti) esc p.nx p.nx.toList.tail ((j.load s1 st).put (some o.tn) (.fb [.val .bool false])) λs2=>match AY (s2.ev (.tmp p.tc))with
  |some false=>IP o.ti k .normal s2|_=>none
 else none
noncomputable def UD (p:RP) (j:Sh) (hb:Hint) (s:S U.C) (k:Ex->S U.C->Option α):Option α:=
 match p.ro with
 |none=>none|some o=>
  oM X kx esc p.ops (l4 p.ops.toList) s λs=>match X.ty o.e,s.ev o.x with
   |some (.mp m'),.val (.mp m) q=>bif Nat.beq m' m&&(X.wr&&s.pl false)then match U.ak m with
    |.map kt vt=>match maps U m kt vt s with
     |some l=>Option.bind (α:=Nat) q λi=>(l[i]?).bind λes=>
      bif j.vg X.fix&&(s.put (some o.ti) .it).pl true then match j.save (s.put (some o.ti) .it) (s.put (some o.ti) .it)with
       |some x0=>m6 (vn X kx esc p o j hb (s.put (some o.ti) .it) k kt vt) (Br X kx esc p o j (s.put (some o.ti) .it) k) es.length es x0|none=>none
      else none
     |none=>none
    |_=>none
    else none
   |_,_=>none
end
section
variable{P:Program}{E E':Env}{U:cm}{T:da U.C}{X:Ctx U}{w0:World}{I0:Cells}{n:Nat}{o:Oper}{s:S U.C}{q:St}{α:Type}{out:α}{fz:Bool}{kx:tz U->S U.C->Option α}{K:S U.C->Option α}{esc:List (Nat×Nat)}
variable(L:Lawful U T)
include L in
theorem l5(hX:bG P E T X){sB:S U.C}(hE:(∃k,sB.m k=true)->E.fixed=false){ops:Array Oper}(ax:gJ n ops=true){R:Exit->Act->World->Prop}{rest:List Nat}(RA:∀q a w,QE P E T X sB K out q->Rel P E w0 I0 n q a w->wpOps P ops R rest a w)
  (RB:∀av v q a w I be,XE P E T X sB kx out av q->aC P E w0 I0 n q a w I be->cj w I v av->R (.panic [{v:=v,recovered:=false}]) a w):
  ∀(l:List Oper)(i:Nat)(s:S U.C)(q:St)(a:Act)(w:World),(∀j o,l[j]?=some o->ops[i+j]?=some o)->bu sB s->oM X kx esc ops l s K=some out->aN P E T X s q->Rel P E w0 I0 n q a w->
  wpOps P ops R (List.range' i l.length++rest) a w
 |[],i,s,q,a,w,_,hm,h,hS,hR=>RA q a w ⟨s,hS,hm,h⟩ hR|o::l,i,s,q,a,w,hl,hm,h,hS,hR=>by
  have ho:ops[i]?=some o:=by simpa using hl 0 o rfl
  have jq:∀j o',l[j]?=some o'->ops[(i+1)+j]?=some o':=λj o' hj=>by have:=hl (j+1) o' (by simpa using hj);simpa[iU,jo 1]using this
  have qG:=rq.1 ax o (nB ho);simp only[aD]at qG;simp only[dE,List.range'_succ,ou,wpOps,ho];have run:∀s:S U.C,bu sB s->aN P E T X s q->Kh X kx esc o s (λs=>oM X kx esc ops l s K)=some out->o.wp P a w (wpOps P ops R (List.range' (i+1) l.length++rest)) R:=λs hm hS h=>by
   cases O7 (w0:=w0) (I0:=I0) L hX (by rw[hm.m];exact hE) qG.1 h with
   |one s1 hK qY h1=>exact lO (λa' w' ⟨q',g1,g2⟩=>l5 hX hE ax RA RB l (i+1) s1 q' a' w' jq (hm.trans qY) hK g2.1 g1) (h1 q hS a w hR _)|two hf s1 s2 hK1 hK2 qY B3 h1=>
    refine lO (λa' w' ⟨q',g1,g2⟩=>?_) (h1 q hS a w hR _);rcases g2 with g2|g2
    ·exact l5 hX hE ax RA RB l (i+1) s1 q' a' w' jq (hm.trans qY) hK1 g2 g1
    ·exact l5 hX hE ax RA RB l (i+1) s2 q' a' w' jq (hm.trans B3) hK2 g2 g1
   |cG p s1 hK qY h1=>obtain⟨hp,h2⟩:=h1 q hS;refine lO (λa' w' ⟨q',g1,g2⟩=>g2.elim) (h2 a w hR _ λx v s' a' w' I' iK hx lr hr=>?_);exact RB x v s' a' w' I' iK ⟨p,s1,hx.1,hm.trans qY,hK,hp,hx.2⟩ lr hr
  have go:∀s:S U.C,bu sB s->aN P E T X s q->oM X kx esc ops l s K=some out->wpOps P ops R (List.range' (i+1) l.length++rest) a w:=λs hm hS h=>l5 hX hE ax RA RB l (i+1) s q a w jq hm h hS hR;have skip:∀s:S U.C,bu sB s->aN P E T X s q->oM X kx esc ops l (s.put o.dst qQ) K=some out->wpOps P ops R (List.range' (i+1) l.length++rest) (a.put o.dst undef) w:=λs hm hS h=>by refine l5 hX hE ax RA RB l (i+1) _ (q.put o.dst (.fb [])) _ w jq (hm.trans (bd _ _)) h (hS.put o.dst (.fb [] [] rfl λi r q hr=>by simp at hr)) ?_;obtain⟨I,be,lr⟩:=hR;exact⟨I,be,lr.put o.dst (r:=.fb []) ⟨#[],rfl,rfl,λj r hr=>by simp at hr⟩⟩
  unfold oM at h;cases hg:o.guard with
  |none=>simp only[hg]at h;simp only[Region.wanted,hg,bp];exact .inl (run s hm hS h)|some p=>
   obtain⟨j,want⟩:=p;simp only[hg]at h;split at h
   ·cases h
   ·rename_i t hj;have eK:t<n:=by have:=qG.2;simp only[hg,hj]at this;simpa using this
    have hR0:=hR;obtain⟨I,be,lr⟩:=hR0;have KN:=hS.cr t;have hw:∀b,gate q t want=some b->(yielded ops a.tmps j==some want)=b:=λb hb=>rF lr eK hj hb;simp only[Region.wanted,hg];split at h
    ·rename_i b hb;have hq:q.r t=.val (.fl (.bool b)):=by
      rw[hb]at KN;cases KN with
      |val _ _ _ av hq hv=>obtain ⟨_,rfl⟩:=hv;exact dp hq
     rw[hw (b==want) (by simp[gate,hq])];have ID:∀b',b'=b->aN P E T X (s.put (some t) (.val .bool b')) q:=λb' e=>hS.told (by subst e;rw[hq];exact aY (t:=.bool) rfl);cases b<;>cases want<;>simp only[ba,bc]at h<;>simp
     ·exact .inl (run (s.put (some t) _) (hm.trans (bd _ _)) (ID _ rfl) h)
     ·exact skip (s.put (some t) _) (hm.trans (bd _ _)) (ID _ rfl) h
     ·exact skip (s.put (some t) _) (hm.trans (bd _ _)) (ID _ rfl) h
     ·exact .inl (run (s.put (some t) _) (hm.trans (bd _ _)) (ID _ rfl) h)
    ·rename_i b hb;have hq:q.r t=.val (.fl (.bool b)):=by
      rw[hb]at KN;generalize q.r t=u at KN;cases KN with
      |const _ hc=>rfl
     rw[hw (b==want) (by simp[gate,hq])];cases b<;>cases want<;>simp only[Bool.xor_self,Bool.xor_true,Bool.xor_false,tq,fG,ba,bc]at h<;>simp
     ·exact .inl (run _ hm hS h)
     ·exact skip _ hm hS h
     ·exact skip _ hm hS h
     ·exact .inl (run _ hm hS h)
    ·rename_i hb;have hq:∃qs,q.r t=.fb qs:=by
      rw[hb]at KN;generalize q.r t=u at KN;cases KN with
      |fb _ qs _ _=>exact ⟨qs,rfl⟩
     obtain⟨qs,hq⟩:=hq;rw[hw false (by simp[gate,hq])];simp;exact skip _ hm hS h
    ·cases h
theorem Cn{bx:List (Nat×Nat×B U.C)}{g:Nat->Nat}{tick:Nat}{r:R U.C}{u:br}{it:Bool}(yS:it=true->E.it=E'.it)(h:bn P E T bx g tick r u)(hp:r.pl it=true):bn P E' T bx g tick r u:=by
 induction h with
 |none q=>exact .none q|val t x q av hq hv=>have ho:fg t=true:=hp;have:=gm hv ho;subst this;exact .val t x q _ hq (gH ho)
 |const v hv=>exact .const v hv|full t xs ho=>exact .full t xs ho
 |loc d k q hh=>exact .loc d k q hh|whole d q hh=>exact .whole d q hh
 |gl d i k mn t x q hv hh=>exact .gl d i k mn t x q hv hh|dn t x k ho=>exact .dn t x k ho
 |fb rs qs hl h2 ih=>exact .fb rs qs hl λi r q hr hq=>ih i r q hr hq (p8 hp r (bC hr))|fn f caps aX hl h2 ih=>exact .fn f caps aX hl λi r q hr hq=>ih i r q hr hq (p8 hp r (bC hr))
 |mI tid t x ho=>exact .mI tid t x ho|jZ k i off=>exact .jZ k i off
 |jv k i j off=>exact .jv k i j off|sub d off m q hh=>exact .sub d off m q hh
 |vc rs aX h1 h2 h3 ih=>exact .vc rs aX h1 (λi r q hr hq=>ih i r q hr hq (p8 hp r (bC hr))) h3|sC r av h ih=>exact .sC r av (ih hp)
 |emp t ho=>exact .emp t ho|agg n rs aX h1 h2 h3 ih=>exact .agg n rs aX h1 (λi r q hr hq=>ih i r q hr hq (p8 hp r (bC hr))) h3
 |nz f rs aX h1 h2 ih=>exact .nz f rs aX h1 λi r q hr hq=>ih i r q hr hq (p8 hp r (bC hr))|it=>have hp:it=true:=hp;rw[yS hp];exact .it
theorem Co{X':Ctx U}(hU:X'.ty=X.ty)(E5:E.df=E'.df){it:Bool}(yS:it=true->E.it=E'.it)(hS:aN P E T X s q)(hp:s.pl it=true):aN P E' T X' s q:=by
 simp only[S.pl,aD,cJ]at hp;refine⟨λt=>Cn yS (hS.cr t) ?_,λd=>?_,hS.Ci,hS.Fw,hS.heap,hS.df.trans E5⟩
 ·rw[S.look_eq];cases hl:ao s.r t with
  |none=>rfl|some e=>exact hp.1 _ (fW (by rw[hl]))
 ·have hb:=hS.boxes d;cases hl:ao s.b d with
  |none=>exact trivial|some e=>
   obtain⟨st,x⟩:=e;rw[hl]at hb;have hx:=hp.2 _ (fW hl);cases x with
   |cells u rs=>obtain⟨b1,b2,cs,b3,b4,b5⟩:=hb;exact⟨b1,b2,cs,b3,b4,λi r c hr hc=>Cn yS (b5 i r c hr hc) (p8 hx r (bC hr))⟩|aT t e xs=>obtain⟨b1,b2⟩:=hb;exact⟨by rw[hU];exact b1,b2⟩
theorem UE{e:TypeId}{t:Ty}(h:kL P E T X e t):kL P E T X.fix e t:=by obtain⟨h1,h2,h3,h4,h5,h6,h7,h8,h9,tf,Hw,JB,Rx,Sr,Ul,Um,h17,h18,h19,h20,h21⟩:=h;exact⟨h1,h2,h3,h4,h5,h6,h7,h8,h9,tf,Hw,JB,Rx,Sr,Ul,Um,h17,h18,h19,h20,h21⟩
include L in
theorem NK(hX:bG P E T X)(hTy:∀E' e t,X.ty e=some t->kL P E' T X e t){m i:Nat}(hm:∃a b,U.ak m=.map a b)(hk:m<U.nk){B bm since:Nat}{seen:List Nat}{x:Ob}:bG P (E.iter B bm since seen (dk m i) x) T X.fix:=⟨λh=>(by cases h),λk i' fM hn=>by simp only[Env.iter];rw[ai λe=>?_];obtain⟨rfl,_⟩:=iO L fM hk e;obtain⟨a,b,h⟩:=hm;exact hn a b h,λe t ht=>UE (hTy _ e t ht),λf c hc=>(by cases hc),hX.obj,hX.map,hX.M3,hX.Tr,hX.mq⟩
end
end Go.X
