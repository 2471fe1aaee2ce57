import Derived.Scope
import Derived.Laws.IdiomStrings
import Derived.Orders
import Derived.MapKept
import Derived.Test.YtlacgaedkjhfhaaGreatDoorZC1
set_option linter.all false
open Option renaming some->O,none->Y
open Bool renaming true->W,false->F
namespace Go.Ev
open Go
variable{t e t':JA}{i d off gg len n j id k d' sz:Nat}{K:cy->Prop}{xs args:Z AV}{v:Jz}{b:tl}{c:F4}{fn:Pz}{op:VQ}{out:ni}{a':Nat->V Ob}{u':Nat->tl}{s:St}{listed:Array tl}{a:Act}{r:cy}{E:cm}{w0:zI}{I0:aD}{y:qm}{lo hi mx:V qm}{f:JC}{P:qK}{X:AV->St->Prop}{be:Nat->V Nat}{b8:Array JB}{ob:V Nat}{vs:Array Jz}{g:Nat->Nat}{α:Type}
section
variable{P:qK}{E:cm}{w0:zI}{I0:aD}{n:Nat}{s s':St}{a:Act}{w w':zI}{I I':aD}{be:Nat->V Nat}{o:JB}{K:St->Prop}
theorem Kf(h:aL P E w0 I0 n s a w I be){cs:Z AV}(f:s.a i=O (.cells cs)){B:Nat}(g:I.ar i=O B)(k:Nat):∃vs cur t,w.heap[B]?=O (.cells cur t (0,0))/\cur.size=cs.length/\kf w I ⟨B,k,Y⟩ (cs.drop k) vs:=by
 obtain⟨B',q1,cur,t,d,e,l⟩:=h.bb.hC i _ f;rw[g]at q1;injection q1 with q1;subst q1;have:kf w I ⟨B,0,Y⟩ cs cur.toList:=by
  refine⟨by simpa using e,λj v b=>?_,λj v c b m=>?_⟩
  .rw[dW,cX,pB d];simpa using b
  .have:=l j c m;have o:cur[j]?=O v:=by simpa using b
   simpa[o]using this
 have:=this.drop k;rw[dW,cX]at this;exact⟨_,cur,t,d,e,this⟩
theorem C6(h:aL P E w0 I0 n s a w I be)(b:s.a i=O (.bi e xs)){B:Nat}(c:I.ar i=O B){x:AV}(d:xs[j]?=O x):∃vs,kf w I ⟨B,j*P.cellsOf e,Y⟩ x.cells vs:=by
 obtain⟨B',q1,f⟩:=h.bb.hC i _ b;rw[c]at q1;injection q1 with q1;subst q1;have g:ie P w I (λ_=>O B) (λ_=>Y) (λ_=>0) 0 (.bi e xs):=by obtain⟨k,l,m,o⟩:=f;exact⟨k,l,m,o⟩
 exact yb g rfl d
def Zf(P:qK)(o:JB)(s:St)(K:cy->Prop):Prop:=
 match o.op with
 |.load t x=>match s.ev x with
  |.val (.ptr i off)=>match s.a i with
   |some (.cells cs)=>jh P t (cs.drop off) λv=>K (.val v)|some (.bi e xs)=>∃y,xs[off/P.cellsOf e]?=O y/\jh P t (y.cells.drop (off%P.cellsOf e)) λv=>K (.val v)
   |_=>False
  |_=>False
 |.fieldAddr t x f=>match s.ev x with
  |.val (.ptr i off)=>∃a b,kj P t f=O (a,b)/\K (.val (.ptr i (off+a)))|_=>False
 |.indexAddr t x y=>match s.ev x with
  |.val (.view i sz len)=>∃e k m,ga P t=O e/\s.ev y=.val (.fl (.int k m))/\(0<P.cellsOf e/\sz=P.cellsOf e/\0<=m/\m<len)/\K (.val (.ptr i (m.toNat*sz)))|_=>False
 |_=>False
theorem lA(h:cq w I v (.ptr i off)):∃B,I.ar i=O B/\v=.pointer (O ⟨B,off,Y⟩):=by
 cases h with
 |ptr i off B h=>exact ⟨B,h,rfl⟩
theorem NY{K:cy->Prop}(l:aW n o=W)(h:Zf P o s K):∃r,K r/\dQ P E w0 I0 n o s r:=by
 unfold Zf at h;cases c:o.op<;>simp only[c]at h;case load t x=>
  have G:∀a w I be,aL P E w0 I0 n s a w I be->b4 P w I be s.b s.g (a.eval x) (s.ev x):=λa w I be b=>aG l (x:=x) (by simp[c,Op.operands]) b;split at h
  .rename_i i off j;split at h
   .rename_i cs q;obtain⟨y,h1,d⟩:=pD h;refine⟨_,h1,λa w I be b=>?_⟩;have hv:=G a w I be b;rw[j]at hv;obtain⟨B,g,e⟩:=lA (show cq w I (a.eval x) (.ptr i off)from hv);obtain⟨vs,_,_,_,_,p⟩:=Kf b q g off;obtain⟨v,z,q1,C,D⟩:=mz p d;refine⟨v,?_,by subst D;exact C⟩;simp[execOp,c,e,Instr.loadAt,Instr.sureAddr,q1]
   .rename_i e xs q;obtain⟨y,Q,h⟩:=h;obtain⟨z,h1,d⟩:=pD h;refine⟨_,h1,λa w I be b=>?_⟩;have hv:=G a w I be b;rw[j]at hv;obtain⟨B,g,e1⟩:=lA (show cq w I (a.eval x) (.ptr i off)from hv);obtain⟨vs,p⟩:=C6 b q g Q;have H:=p.drop (off%P.cellsOf e);rw[dW,tg,Nat.div_add_mod]at H;obtain⟨v,c0,q1,C,D⟩:=mz H d;refine⟨v,?_,by subst D;exact C⟩;simp[execOp,c,e1,Instr.loadAt,Instr.sureAddr,q1]
   .exact h.elim
  .exact h.elim
 case fieldAddr t x f=>
  split at h
  .rename_i i off j;obtain⟨d0,e0,h1,d⟩:=h;obtain⟨fs,fd,hu,R,rfl,rfl,J⟩:=pH h1;refine⟨_,d,λa w I be b=>?_⟩;have hv:=aG l (x:=x) (by simp[c,Op.operands]) b;rw[j]at hv;obtain⟨B,g,e⟩:=lA (show cq w I (a.eval x) (.ptr i off)from hv);refine⟨.pointer (O ⟨B,off+fd.offset,Y⟩),?_,.ptr i _ B g⟩;simp only[execOp,c,e,b9,q6 hu R J,cz,cF,dW]
  .exact h.elim
 case indexAddr t x y=>
  split at h
  .rename_i i sz len j;obtain⟨e,k,m,h1,d,⟨S,T,U,X⟩,a0⟩:=h;refine⟨_,a0,λa w I be b=>?_⟩;have hv:=aG l (x:=x) (by simp[c,Op.operands]) b;have hw:=aG l (x:=y) (by simp[c,Op.operands]) b;rw[j]at hv;rw[d]at hw;have hw:=cb hw;have L:cq w I (a.eval x) (.view i sz len):=hv;obtain⟨u,N⟩:∃u,a.eval x=u:=⟨_,rfl⟩
   rw[N]at L;cases L with
   |view i sz len B cap e' cur A g p J f0 b0=>obtain rfl:=b0 M;refine⟨.pointer (O ⟨B,m.toNat*sz,Y⟩),?_,.ptr i _ B g⟩;have:=kg (eH h1) S ⟨B,0,Y⟩ len cap k m U X w;simp only[execOp,c,hw,b9,cz,cF];rw[N,this,dW,cX,T];rfl|kV=>omega
  .exact h.elim
end
def Mh(P:qK)(s:St)(t:JA)(r:cy)(K:cy->Prop):Prop:=
 match r with
 |.val (.ref cs)=>jh P t cs λv=>K (.val v)|.dT d gg sz i k=>gg=s.g d/\
  match s.b d with
  |some (.cells cs)=>iG P t (cs.drop (i*sz+k)) K|some (.bi e xs)=>sz=P.cellsOf e/\∃y,xs[i]?=O y/\jh P t (y.cells.drop k) λv=>K (.val v)
  |none=>False
 |_=>False
def Av(P:qK)(s:St)(t:JA)(f:Nat)(r:cy)(K:cy->Prop):Prop:=
 ∃off a,kj P t f=O (off,a)/\
 match r with
 |.val (.ref cs)=>K (.val (.ref (cs.drop off)))|.dT d gg sz i k=>(gg=s.g d/\s.b d≠Y)/\K (.dT d gg sz i (k+off))
 |_=>False
def Aw(P:qK)(s:St)(t:JA)(x y:cy)(K:cy->Prop):Prop:=
 ∃e,ga P t=O e/\0<P.cellsOf e/\
 match y with
 |.val (.fl (.int _ m))=>0<=m/\
  match x with
  |.val (.sl xs)=>∃z,xs[m.toNat]?=O z/\z.cells.length=P.cellsOf e/\K (.val (.ref z.cells))|.bM xs=>∃z,xs[m.toNat]?=O z/\z.cells.length=P.cellsOf e/\K (.val (.ref z.cells))
  |.view d gg off len=>gg=s.g d/\(∃xs,s.b d=O (.bi e xs))/\m<len/\K (.dT d gg (P.cellsOf e) (off+m.toNat) 0)|_=>False
 |_=>False
def PI(P:qK)(op:VQ)(t:JA)(x y:cy)(K:cy->Prop)(G:Prop):Prop:=
 match x,y with
 |.val (.fl (.int k p)),.val (.fl (.int k' q))=>(k'=k∨kl op=W)/\∃v,rf op k p q=O v/\K (.val (.fl v))|.val (.fl (.bool p)),.val (.fl (.bool q))=>(P.underlying t=O .bool/\(op=.eql∨op=.neq))/\K (.val (.fl (.bool (if op=.eql then p==q else p !=q))))
 |_,_=>G
def lB(s:St)(x:qm):Jz:=(mB (s.ev x)).getD undef
def Ax(P:qK)(o:JB)(s:St)(K:cy->Prop):Prop:=∃v,(∀w,(execOp (lB s) o).run P w=.ok (.value v) w)/\(Tk v/\∀x∈o.op.operands,(mB (s.ev x)).isSome=W/\s.ev x≠.bM [])/\K (.val (.fl v))
def uT(P:qK)(s:St)(t:JA)(xs:Z AV)(lo hi mx:V qm)(K:cy->Prop):Prop:=
 ∃e,ga P t=O e/\∃l q,lU s 0 lo=O l/\lU s xs.length hi=O q/\(0<P.cellsOf e/\(∀x∈xs,x.cells.length=P.cellsOf e)/\l<=q/\q<=xs.length)/\
  match mx with
  |none=>K (.val (.sl ((xs.drop l).take (q-l))))|some z=>hi.isSome=W/\lU s 0 (O z)=O q/\K (.bM ((xs.drop l).take (q-l)))
def Kg(P:qK)(s:St)(t:JA)(x:cy)(lo hi mx:V qm)(K:cy->Prop)(G:Prop):Prop:=
 match x with
 |.val (.sl xs)=>uT P s t xs lo hi mx K|.bM xs=>uT P s t xs lo hi mx K
 |.view d gg off len=>mx=Y/\∃e,ga P t=O e/\gg=s.g d/\(∃xs,s.b d=O (.bi e xs))/\∃l q,lU s 0 lo=O l/\lU s len hi=O q/\(l<=q/\q<=len)/\K (.view d gg (off+l) (q-l))|_=>G
def rZ(P:qK)(o:JB)(s:St)(K:cy->Prop):Prop:=
 match o.op with
 |.move x=>K (s.ev x)|.pick c x y=>∃b,s.ev c=.val (.fl (.bool b))/\K (if b then s.ev x else s.ev y)
 |.load t x=>Mh P s t (s.ev x) K|.fieldAddr t x f=>Av P s t f (s.ev x) K
 |.indexAddr t x y=>Aw P s t (s.ev x) (s.ev y) K|.extract x k=>∃rs r,s.ev x=.fK rs/\rs[k]?=O r/\K r
 |.field t x f=>∃off a,kj P t f=O (off,a)/\∃cs,s.ev x=.val (.agg cs)/\jh P a (cs.drop off) λv=>K (.val v)|.makeFunc (.func f) first caps=>first.toList=[]/\∃xs,cP s caps.toList=O xs/\K (.val (.fn f xs))
 |.makeInterface t x=>∃v,bu (s.ev x)=O v/\P.concrete t=W/\K (.val (.mQ t v))|.build t d=>∃pl,ki P t=O pl/\∃z,ng P t=O z/\∃ps,iu s pl d.toList=O ps/\(pl.all λp=>decide (p.1+p.2<=z.cells.length))=W/\K (.val (.agg (dj z.cells ps)))
 |.slice t x lo hi mx=>Kg P s t (s.ev x) lo hi mx K (mx=Y/\P.underlying t=O .string/\∃xs,s.ev x=.val (.fl (bs xs))/\∃l h,lU s 0 lo=O l/\lU s xs.length hi=O h/\(l<=h/\h<=xs.length)/\K (.val (.fl (bs ((xs.drop l).take (h-l))))))|.index t x y=>P.underlying t=O .string/\∃l,s.ev x=.val (.fl (bs l))/\∃k m,s.ev y=.val (.fl (.int k m))/\0<=m/\∃c,l[m.toNat]?=O c/\K (.val (.fl (.int .u8 c.toNat)))
 |.binOp op t x y _=>PI P op t (s.ev x) (s.ev y) K ((∃p q,s.ev x=.val (.fl (bs p))/\s.ev y=.val (.fl (bs q))/\∃v,l9 op p q=O v/\K (.val (.fl v)))∨Ax P o s K)|.unOp .not _ x=>∃p,s.ev x=.val (.fl (.bool p))/\K (.val (.fl (.bool (!p))))
 |.unOp .neg _ x=>∃k p,s.ev x=.val (.fl (.int k p))/\K (.val (.fl (.int k (k.wrap (0-p)))))|.convert _ _ _=>Ax P o s K
 |_=>False
section
variable{P:qK}{E:cm}{w0:zI}{I0:aD}{n:Nat}{o:JB}{s:St}
theorem Ay(g:aW n o=W)(i:∀cs b,o.op≠.select cs b)(h:Ax P o s K):∃r,K r/\∀a w I be,aL P E w0 I0 n s a w I be->∃v,(execOp a.eval o).run P w=.ok (.value v) w/\b4 P w I be s.b s.g v r:=by
 obtain⟨v,j,⟨k,l⟩,m⟩:=h;refine⟨_,m,λa w I be p=>⟨v,?_,.fl _ k⟩⟩;have q:∀x∈o.op.operands,a.eval x=lB s x:=λx e=>by
  have q1:=aG g e p;obtain⟨t,f⟩:=l x e;obtain⟨u,c⟩:=Ab.1 t;have z:lB s x=u:=by simp[lB,c]
  rw[z];cases d:s.ev x with
  |val y=>rw[d]at q1 c;exact Kc q1 c|bM ys=>
   rw[d]at c f;cases ys with
   |nil=>exact absurd rfl f|cons y ys=>simp[mB]at c
  |_=>rw[d]at c;simp[mB]at c
 rw[execOp_congr o i q];exact j w
theorem ri{x:qm}(a:o.op=.slice t x lo hi mx)(b:aW n o=W)(c:bu (s.ev x)=O (.sl xs))(h:uT P s t xs lo hi mx K):∃r,K r/\dQ P E w0 I0 n o s r:=by
 obtain⟨e,h1,l,h',d,f,⟨g,i,j,k⟩,m⟩:=h;cases mx with
 |none=>exact ⟨_,m,Ap a b h1 g c i d f j k⟩|some z=>
  obtain⟨p,q,u⟩:=m;cases hi with
  |none=>simp at p|some y=>exact ⟨_,u,wO a b h1 g c i d (by simpa[lU]using f) q j k⟩
theorem C7(u:aW n o=W)(h:rZ P o s K):∃r,K r/\dQ P E w0 I0 n o s r:=by
 unfold rZ at h;cases j:o.op<;>simp only[j]at h;case move x=>exact ⟨_,h,JW j u⟩
 case pick c x y=>obtain⟨b,g,a⟩:=h;exact⟨_,a,JX j u g⟩
 case load t x=>
  unfold Mh at h;split at h
  .rename_i cs w;obtain⟨v,g,a⟩:=Ag (E:=E) (w0:=w0) (I0:=I0) j u w h;exact⟨_,g,a⟩
  .rename_i d gg sz i k w;obtain⟨L,h⟩:=h;split at h
   .rename_i cs J;exact wI j u w L J h
   .rename_i e xs J;obtain⟨g,y,a,A⟩:=h;obtain⟨v,B,C⟩:=Ai (E:=E) (w0:=w0) (I0:=I0) j u w L J g a A;exact⟨_,B,C⟩
   .exact h.elim
  .exact h.elim
 case fieldAddr t x f=>
  obtain⟨off,S,g,a⟩:=h;obtain⟨fs,X,N,Q,rfl,rfl,R⟩:=pH g;split at a
  .rename_i cs w;exact⟨_,a,sv j u N Q R w⟩
  .rename_i d gg sz i k w;exact⟨_,a.2,sw j u N Q R w a.1.1 a.1.2⟩
  .exact a.elim
 case indexAddr t x y=>
  obtain⟨e,g,a,A⟩:=h;split at A
  .rename_i k m H;obtain⟨B,C⟩:=A;split at C
   .rename_i xs w;obtain⟨z,D,G,I⟩:=C;exact⟨_,I,nc j u (eH g) (by rw[w];rfl) H B D a G⟩
   .rename_i xs w;obtain⟨z,D,G,I⟩:=C;exact⟨_,I,nc j u (eH g) (by rw[w];rfl) H B D a G⟩
   .rename_i d gg off len w;obtain⟨D,⟨xs,G⟩,I,T⟩:=C;exact⟨_,T,q7 j u (eH g) w D G H B I⟩
   .exact C.elim
  .exact A.elim
 case extract x k=>obtain⟨rs,r,g,a,A⟩:=h;exact⟨_,A,CY j u g a⟩
 case field t x f=>obtain⟨off,S,g,cs,a,A⟩:=h;obtain⟨v,B,C⟩:=Hn (E:=E) (w0:=w0) (I0:=I0) j u g a A;exact⟨_,B,C⟩
 case makeFunc fn first caps=>
  cases fn<;>simp only at h;obtain⟨h0,xs,g,a⟩:=h;have U:first=#[]:=by simpa using h0
  subst U;exact⟨_,a,rb j u g⟩
 case makeInterface t x=>obtain⟨v,g,a,A⟩:=h;exact⟨_,A,sx j u a g⟩
 case build t a0=>obtain⟨pl,g,z,a,ps,A,B,C⟩:=h;exact⟨_,C,nU j u g (.Tt a) B A⟩
 case slice t x lo hi mx=>
  unfold Kg at h;split at h
  .rename_i xs w;exact ri j u (by rw[w];rfl) h
  .rename_i xs w;exact ri j u (by rw[w];rfl) h
  .rename_i d gg off len w;obtain⟨rfl,e,g,a,⟨xs,A⟩,l,h',B,C,⟨D,G⟩,I⟩:=h;exact⟨_,I,k9 j u g w a A B C D G⟩
  .obtain ⟨rfl,g,xs,a,l,h',A,B,⟨C,D⟩,G⟩:=h;exact⟨_,G,y7 j u g a A B C D⟩
 case index t x y=>obtain⟨g,l,a,k,m,A,B,c,C,D⟩:=h;exact⟨_,D,y6 j u g a A B C⟩
 case binOp op t x y t'=>
  unfold PI at h;split at h
  .rename_i k p k' q w H;obtain⟨g,v,a,A⟩:=h;exact⟨_,A,yZ j u w H g a⟩
  .rename_i p q w H;exact⟨_,h.2,wP j u h.1.1 h.1.2 w H⟩
  .rcases h with⟨p,q,g,a,v,A,B⟩|h
   .exact ⟨_,B,O0 j u g a A⟩
   .exact Ay u (by simp[j]) h
 case unOp op t x=>
  cases op<;>simp only at h
  .obtain ⟨k,p,g,a⟩:=h;exact⟨_,a,Ar j u g⟩
  .obtain ⟨p,g,a⟩:=h;exact⟨_,a,Aq j u g⟩
 case convert t t' x=>exact Ay u (by simp[j]) h
def E9(P:qK)(o:JB)(s:St)(K:cy->Prop):Prop:=rZ P o s K∨Zf P o s K
theorem Fa(a:aW n o=W)(h:E9 P o s K):∃r,K r/\dQ P E w0 I0 n o s r:=h.elim (C7 a) (NY a)
end
section
variable{P:qK}{E:cm}{w0:zI}{I0:aD}{n:Nat}{o:JB}{s:St}{K:St->Prop}{a:Act}{w w':zI}{I I':aD}{be:Nat->V Nat}
theorem aL.Tv (h:aL P E w0 I0 n s a w I be) {B:Nat} (b:E.fresh w0 B) (c:B<w.heap.size) (e:¬E.cB w B) (f:∀d,s.b d≠Y->be d≠O B) (g:∀i,s.a i≠Y->I.ar i≠O B):aL P E w0 I0 n s a w (I.plus λp=>p.block=B) be:=h.acA B ⟨b,c,e,f⟩ g
def nV(l:Z NT):Z AV:=l.map λc=>.fl (.int .u8 c.toNat)
theorem Hs{src dst:JA}{x:qm}(p:o.op=.convert src dst x)(C:aW n o=W)(D:P.underlying src=O .string)(G:P.underlying dst=O (.slice e))(H:P.underlying e=O (.int .u8)){l:Z NT}(d:s.ev x=.val (.fl (bs l)))(J:l.length<=maxLen)
  (L:K (s.put o.dst (.val (.sl (nV l))))):dE P E w0 I0 n o s K:=by
 rintro a w ⟨I,be,r⟩ e0;have t:=aG C (x:=x) (by simp[p,Op.operands]) r;rw[d]at t;have e1:=cb t;have N:(ByteArray.mk l.toArray).size=l.length:=by simp[ByteArray.size]
 have g:=run_bytes_of_string w src dst e ⟨l.toArray⟩ D G H;rw[N]at g;obtain⟨cap,Q⟩:∃cap,grownCap w l.length 0 e=cap:=⟨_,rfl⟩
 have u:=grownCap_ge w l.length 0 e;have y:=grownCap_le_maxLen w l.length 0 e J;rw[Q]at g u y;obtain⟨b,z⟩:∃b,bytesRow ⟨l.toArray⟩ cap=b:=⟨_,rfl⟩
 have A:∀(i:Nat)(c:NT),l[i]?=O c->b[i]?=O (Value.int .u8 c.toNat):=λi c hi=>by have R:=(aY.1 hi).1;rw[<-z,bytesRow,Tr (by simpa using R)];simp[hi]
 rw[z]at g;refine fm (v:=.slice (O ⟨w.heap.size,0,Y⟩) l.length cap) (w':=w.drew.alloc (.cells b e (b.size,b.size+1))) (by simp[execOp,p,e1,g]) ⟨_,?_,L⟩;obtain⟨S,T,⟨q1,U,f0,X,a0⟩,_,b0⟩:=r.fresh (w':=w.drew.alloc (.cells b e (b.size,b.size+1))) (o:=.cells b e (b.size,b.size+1)) rfl rfl rfl rfl;have c0:=S.Tv (B:=w.heap.size) q1 U X a0 (b0 _ rfl);refine⟨_,be,c0.put o.dst ?_⟩;refine cq.sl ⟨w.heap.size,0,Y⟩ l.length cap 1 (nV l) (λi _=>b.getD i undef) (by simp[nV]) (by simpa[nV]using u) y (λi x d=>?_) (λi j x c d f=>?_) (λi j x c d f=>?_) (λi j x c d f=>?_)
 .simp only[nV,dC,ck]at d;obtain⟨c,_,rfl⟩:=d;simp[AV.cells,AV.wf,AV.isAgg]
 .simp only[nV,dC,ck]at d;obtain⟨q,h,rfl⟩:=d;have k:j=0:=by have:=(aY.1 f).1;simp[AV.cells]at this;exact this
  subst k;have m:=A i q h;have d0:(Addr.mk w.heap.size 0 Y).add (i*1+0)=⟨w.heap.size,i,Y⟩:=by
   unfold Addr.add;split
   .rename_i h0;have:i=0:=M;subst this;rfl
   .simp
  rw[d0];simp only[World.cell?,T];simp[m]
 .right;unfold Addr.add;split<;>rfl
 .simp only[nV,dC,ck]at d;obtain⟨q,h,rfl⟩:=d;have k:j=0:=by have:=(aY.1 f).1;simp[AV.cells]at this;exact this
  subst k;simp[AV.cells]at f;subst f;have m:=A i q h;simp only[jl,m,eP];exact .fl _ rfl
end
def VT:AV->cy
 |.sl []=>.bM []|v=>.val v
theorem Ht(h:v.oneCell'=W):ct v=VT (dM v):=by
 cases v<;>first
  |rfl
  |(simp[Value.oneCell']at h;done)
  |(rename_i A l c
    cases A<;>cases l<;>cases c<;>rfl)
section
variable{P:qK}{E:cm}{w0:zI}{I0:aD}{n:Nat}{o:JB}{s:St}
theorem C8(a:P.underlying t=O (.slice e))(A:V Mc)(n c:Nat)(w:zI):(Op.equal t (.slice A n c) (.slice Y 0 0)).run P w=.ok A.isNone w:=by
 have h:∀d:Nat,(Op.equalIn (d+1) t (.slice A n c) (.slice Y 0 0)).run P w=.ok A.isNone w:=λd=>by cases A<;>simp[Op.equalIn,ef a]
 exact h 9999
theorem Hu{x:qm}(b:o.op=.panic x)(e:aW n o=W){K:St->Prop}{v:AV}(f:s.ev x=.val (.mQ t v))(g:X (.mQ t v) s):nq P E w0 I0 n o s K X:=by
 rintro a w ⟨I,be,c⟩ l h;have d:=aG e (x:=x) (by simp[b,Op.operands]) c;rw[f]at d;have i:cq w I (a.eval x) (.mQ t v):=d;unfold Oper.wp;generalize hv:a.eval x=u at*;cases i with
 |mQ t u y j=>
  have k:(execOp a.eval o).run P w=.halt (.panic (.iface t u)) w:=by simp[execOp,b,hv,Instr.panic]
  rw[k];exact h _ _ s a w I be g c (.mQ t u _ j)
inductive eA where
 |normal
 |exit (id:Nat)
 |goto (l:Nat)
 |ret
def wQ(P:qK)(E:cm)(w0:zI)(I0:aD)(n:Nat)(Q:eA->St->Prop)(X:AV->St->Prop):Exit->Act->zI->Prop
 |.normal,a,w=>∃s,gi P E w0 I0 n s a w/\Q .normal s|.exit id,a,w=>∃s,gi P E w0 I0 n s a w/\Q (.exit id) s
 |.goto l,a,w=>∃s,gi P E w0 I0 n s a w/\Q (.goto l) s|.ret,a,w=>∃s,gi P E w0 I0 n s a w/\Q .ret s
 |.panic b,a,w=>∃x v s I be,b=[{v:=v,recovered:=F}]/\X x s/\aL P E w0 I0 n s a w I be/\cq w I v x|.outgrown,_,_=>False
def nL(P:qK)(E:cm)(w0:zI)(I0:aD)(n:Nat)(c:F4)(Q:eA->St->Prop)(X:AV->St->Prop)(s:St):Prop:=∀a w,gi P E w0 I0 n s a w->c.wp P (wQ P E w0 I0 n Q X) a w
def tv(s:St)(t:Nat)(a:tl):V tl:=
 match s.r t with
 |.val (.fl (.bool b))=>O (b==a)|.fK _=>O F
 |_=>Y
theorem tw{w:zI}{I:aD}(g:aL P E w0 I0 n s a w I be){t:Nat}{e:tl}(h:t<n)(k:(b8[j]?).bind (·.dst)=O t)(c:tv s t e=O b):(yielded b8 a.tmps j==O e)=b:=by
 have i:t<a.tmps.size:=by rw[g.size];exact h
 have d:=g.cu t h;have l:a.tmps.getD t undef=a.tmps[t]:=by simp[i]
 rw[l]at d;unfold tv at c;unfold yielded;rw[k,aM,qP i];split at c
 .rename_i b' f;rw[f]at d;rw[cb d];simp only[ax]at c;subst c;cases b'<;>cases e<;>rfl
 .rename_i rs f;rw[f]at d;obtain⟨vs,hv,_⟩:=d;rw[hv];simp only[ax]at c;subst c;rfl
 .cases c
def iJ(n:Nat)(b8:Array JB):tl:=b8.all λo=>aW n o&&match o.guard with
 |some (j,_)=>match(b8[j]?).bind (·.dst)with
  |some t=>decide (t<n)|none=>W
 |none=>W
variable{Q:eA->St->Prop}{X:AV->St->Prop}
def eA.then (next:St->Prop) (Q:eA->St->Prop):eA->St->Prop
 |.normal,s=>next s|e,s=>Q e s
theorem zo{x y:F4}(h:∀K:St->Prop,(∀s,nL P E w0 I0 n y Q X s->K s)->nL P E w0 I0 n x (eA.then K Q) X s):nL P E w0 I0 n (.seq x y) Q X s:=by
 intro a w c;refine wp_seq (wp_mono (h _ (λ_ h=>h) a w c) λe a' w' b=>?_);cases e with
 |normal=>obtain ⟨s',h1,d⟩:=b;exact d a' w' h1|exit id=>exact b
 |goto l=>exact b|ret=>exact b
 |panic f=>exact b|outgrown=>exact b
theorem PJ(h:Q .normal s):nL P E w0 I0 n .skip Q X s:=λa w b=>wp_skip ⟨s,b,h⟩
theorem NZ{l:Nat}(h:Q .normal s):nL P E w0 I0 n (.label l) Q X s:=λa w b=>wp_label ⟨s,b,h⟩
theorem PK(h:Q (.exit id) s):nL P E w0 I0 n (.exit id) Q X s:=λa w b=>wp_exit ⟨s,b,h⟩
theorem Tw(h:Q .ret s):nL P E w0 I0 n .ret Q X s:=λa w b=>wp_ret ⟨s,b,h⟩
theorem PM{c:qm}{x y:F4}(e:bW c=W/\∀t,c=.tmp t->t<n)(g:s.ev c=.val (.fl (.bool b)))(i:b=W->nL P E w0 I0 n x Q X s)(j:b=F->nL P E w0 I0 n y Q X s):nL P E w0 I0 n (.cond c x y) Q X s:=by rintro a w ⟨I,be,d⟩;have f:=d.ev c e.1 e.2;rw[g]at f;exact wp_cond_split (cb f) (λh=>i h a w ⟨I,be,d⟩) (λh=>j h a w ⟨I,be,d⟩)
def eA.inBlock (id:Nat) (Q:eA->St->Prop):eA->St->Prop
 |.exit a,s=>if a=id then Q .normal s else Q (.exit a) s|e,s=>Q e s
@[simp] theorem eA.uU (id a:Nat):eA.inBlock id Q (.exit a) s=if a=id then Q .normal s else Q (.exit a) s:=rfl
theorem V4(h:nL P E w0 I0 n c (eA.inBlock id Q) X s):nL P E w0 I0 n (.block id c) Q X s:=by
 intro a w i;refine wp_block (wp_mono (h a w i) λe a' w' b=>?_);cases e with
 |normal=>exact b|exit j=>
  obtain⟨s',g,d⟩:=b;simp only[eA.uU]at d;simp only[Exit.inBlock];split
  .rename_i f;rw[aj f]at d;exact ⟨s',g,d⟩
  .rename_i f;rw[ai f]at d;exact ⟨s',g,d⟩
 |goto l=>exact b|ret=>exact b
 |panic k=>exact b|outgrown=>exact b
theorem N6{c:F4}(h:nL P E w0 I0 n c (λe s=>match e with|.goto _=>False|e=>Q e s) X s):nL P E w0 I0 n (.scope c) Q X s:=by
 intro a w d;refine wp_scope_straight (wp_mono (h a w d) λe a' w' b=>?_);cases e with
 |normal=>exact b|exit id=>exact b
 |goto l=>obtain ⟨s',h1,f⟩:=b;exact f.elim|ret=>exact b
 |panic g=>exact b|outgrown=>exact b
theorem Hv(I:Nat->St->Prop)(m:Nat)(h0:I m s)(o:∀m s,I m s->nL P E w0 I0 n c (eA.then (λs'=>∃i,i<m/\I i s') Q) X s):nL P E w0 I0 n (.loop c) Q X s:=by
 intro a w j b k cs;have p:∀m s a w,I m s->gi P E w0 I0 n s a w->
   ∃e a' w',wQ P E w0 I0 n Q X e a' w'/\Arrives P (lone (b.at a (.code c::.inLoop c::k)) cs w) b k cs e a' w':=by
  intro m;induction m using Nat.strongRecOn with
  |_ m q=>
   intro s a w r j;obtain⟨e,g,h,d,f⟩:=o m s r a w j b (.inLoop c::k) cs;cases e with
   |normal=>obtain⟨t,u,i,v,y⟩:=d;obtain⟨z,A,B,C,D⟩:=q i v t g h y u;exact⟨z,A,B,C,.of_steps (Steps.trans f (.one step_inLoop)) D⟩|exit id=>exact ⟨.exit id,g,h,d,.pass (x:=.inLoop c) rfl (λ_ _=>.inl aE) f⟩|goto l=>exact ⟨.goto l,g,h,d,.pass (x:=.inLoop c) rfl (λ_ _=>.inl aE) f⟩
   |ret=>exact ⟨.ret,g,h,d,.pass (x:=.inLoop c) rfl (λ_ _=>.inl aE) f⟩|panic G=>exact ⟨.panic G,g,h,d,.pass (x:=.inLoop c) rfl (λ_ _=>.inl aE) f⟩
   |outgrown=>exact d.elim
 obtain⟨e,a',w',d,f⟩:=p m s a w h0 j;exact⟨e,a',w',d,.of_steps (.one step_loop) f⟩
theorem PN{s':St}(h:∀a w,gi P E w0 I0 n s a w->gi P E w0 I0 n s' a w)(h':nL P E w0 I0 n c Q X s'):nL P E w0 I0 n c Q X s:=λa w b=>h' a w (h a w b)
end
def entry(args:Z AV):St:={r:=λt=>((args.map cy.val)[t]?).getD .none,b:=λ_=>Y,g:=λ_=>0,a:=qH,u:=km}
def tx(args:Z AV)(a:Nat->V Ob)(u:Nat->tl):St:={r:=λt=>((args.map cy.val)[t]?).getD .none,b:=λ_=>Y,g:=λ_=>0,a:=a,u:=u}
def sG(P:qK)(s:St)(ob:V Nat):cy->RV->Prop
 |.val x,.v y=>y=x|.bM xs,.v y=>y=.sl xs
 |.view d gg off len,.v y=>O d≠ob/\gg=s.g d/\∃e xs,s.b d=O (.bi e xs)/\y=.sl ((xs.drop off).take len)|.view d gg off len,.bU e ys=>O d=ob/\gg=s.g d/\off=0/\∃xs,s.b d=O (.bi e xs)/\ys=xs.take len
 |.bM xs,.bU e ys=>xs=[]/\ys=[]/\0<P.cellsOf e|_,_=>False
def eM:RV->tl
 |.bU _ _=>W|_=>F
def r2(P:qK)(s:St)(t:JA)(r:cy)(K:cy->Prop):Prop:=
 match r with
 |.dT d gg sz i k=>match s.b d with
  |some (.cells cs)=>gg=s.g d/\iG P t (cs.drop (i*sz+k)) K|_=>False
 |_=>False
def gK(P:qK)(n:Nat)(s:St)(ob:V Nat):Z ResultVar->Z RV->Prop
 |[],[]=>True|.tmp t::a,r::rs=>t<n/\sG P s ob (s.r t) r/\gK P n s ob a rs
 |.cell c t::a,r::rs=>c<n/\r2 P s t (s.r c) (λx=>sG P s ob x r)/\gK P n s ob a rs|_,_=>False
def PO(P:qK)(fn:Pz)(out:ni)(a':Nat->V Ob)(u':Nat->tl):eA->St->Prop
 |.normal,s|.ret,s=>
  match out with
  |.ret rs=>(rs.filter eM).length<=1/\(s.df=[]/\s.a=a'/\s.u=u')/\∃ob,gK P fn.ntmps s ob fn.results.toList rs|.dO _=>False
 |_,_=>False
def Mi(out:ni)(a':Nat->V Ob)(u':Nat->tl)(y:AV)(s:St):Prop:=
 match out with
 |.ret _=>False|.dO x=>y=x/\s.df=[]/\s.a=a'/\s.u=u'
abbrev Xa(P:qK)(fn:Pz)(out:ni):eA->St->Prop:=PO P fn out qH km
abbrev acB(out:ni):AV->St->Prop:=Mi out qH km
section
variable{P:qK}{E:cm}{w0:zI}{I0:aD}{n:Nat}{s:St}{a:Act}{w:zI}{I:aD}{be:Nat->V Nat}
def oD(I:aD)(s:St)(be:Nat->V Nat)(ob:V Nat):aD:=I.plus λp=>∃d B,O d≠ob/\s.b d≠Y/\be d=O B/\p.block=B
theorem uV(h:aL P E w0 I0 n s a w I be)(ob:V Nat):eL E w0 I0 w (oD I s be ob):=
 h.since.step (w':=w) (I':=oD I s be ob) rfl rfl rfl (a6 _) (λ_=>False) (λ_ _ _=>rfl) (λ_ b=>b.elim) (gh.refl w) (λ_ h=>.inl h) rfl
  (by
    rintro p (c|⟨d,B,_,e,f,rfl⟩)
    .exact .inl c
    .obtain ⟨q1,g,j,i⟩:=h.bU d _ e f;exact .inr ⟨q1,g,i⟩)
def rj(be:Nat->V Nat):cy->RV->V Nat
 |.view d _ _ _,.bU _ _=>be d|_,_=>Y
theorem N7(h:aL P E w0 I0 n s a w I be){b:RV}(m:b4 P w I be s.b s.g v r)(f:sG P s ob r b):ml P E w (oD I s be ob) (E.fresh w0) (rj be r b) v b:=by
 have t:∀{v:Jz}{x:AV},cq w I v x->cq w (oD I s be ob) v x:=λh=>h.mono (.plus _ _ _);cases r with
 |val x=>
  cases b with
  |v y=>have e:y=x:=f;subst e;exact t m|bU e ys=>exact f.elim
 |bM xs=>
  cases b with
  |v y=>have e:y=.sl xs:=f;subst e;exact t m.1|bU e ys=>
   obtain⟨rfl,rfl,h0⟩:=f;obtain⟨A,rfl⟩:=m.2;exact⟨h0,aE,λx u=>by simp at u,rfl,A,rfl⟩
 |view d gg off len=>
  cases b with
  |v y=>obtain⟨h1,z,e,xs,g,rfl⟩:=f;have K:=h.bG d _ g;exact uL g K (m.2 z) (.plus _ _ _) (λB l p C=>.inr ⟨d,B,h1,by simp[g],l,C⟩)|bU e ys=>
   obtain⟨h1,z,rfl,xs,g,rfl⟩:=f;obtain⟨G,i0,L,o⟩:=h.bG d _ g;obtain⟨N,hv⟩:=lx m z g;have D:(xs.take len).length=len:=cM;have Q:kW P e (xs.take len):=λx u=>by obtain⟨i,hi⟩:=kc.1 (s7 u);exact L i x hi
   refine⟨G,by rw[D];omega,Q,?_⟩;simp only[rj];cases l:be d with
   |none=>
    simp only[l]at hv o;subst o;obtain⟨A,rfl⟩:=hv;have:len=0:=by simp at N;omega
    subst this;exact⟨rfl,A,rfl⟩
   |some B=>
    simp only[l]at hv o;obtain⟨cur,cap,A,hw,H,e1,R⟩:=hv;obtain⟨j0,J,q,S,T,l0,U⟩:=o;rw[hw]at q;injection q with q;injection q with q1 m0;subst q1;have X:J=cap:=(k6 G (H.symm.trans S)).symm;subst X;obtain⟨o1,o2,o3,a0⟩:=h.bU d B (by simp[g]) l;refine⟨o1,o2,?_,a0,cur,J,hw,H,T,by rw[D];omega,⟨A,by rw[D];simpa using e1,λb0=>by simpa using R b0⟩,λi j x c hi c0=>?_⟩
    .rintro p (C|⟨d',B',d0,e0,f0,rfl⟩)
     .exact o3 p C
     .intro g0;exact d0 (by rw[<-h1,h.inj d' d B e0 (by simp[g]) (by rw[f0,g0]) l])
    .rw[gf]at hi;split at hi
     .exact t (U i j x c hi c0)
     .cases hi
 |none=>cases b<;>exact f.elim
 |dT d gg sz i k=>cases b<;>exact f.elim
 |fK rs=>cases b<;>exact f.elim
theorem Az:∀{rs:Z RV},(rs.filter eM).length<=1->∀(j a:Nat)(r b:RV),rs[j]?=O r->rs[a]?=O b->eM r=W->eM b=W->j=a
 |[],_,j,a,r,b,h,_,_,_=>by simp at h|x::rs,g,j,a,r,b,h1,c,e,f=>by
  by_cases d:eM x=W
  .have h0:(rs.filter eM)=[]:=by simp only[zL,d,ca,ec]at g;exact nQ M
   have i:∀(k:Nat)(y:RV),rs[k]?=O y->eM y=W->False:=λk y l m=>by have:y∈rs.filter eM:=List.mem_filter.2 ⟨bF l,m⟩;rw[h0]at this;cases this
   cases j with
   |zero=>cases a with
    |zero=>rfl|succ a=>exact (i a b (by simpa using c) f).elim
   |succ j=>exact (i j r (by simpa using h1) e).elim
  .have n:(rs.filter eM).length<=1:=by simpa[zL,d]using g
   cases j with
   |zero=>simp at h1;subst h1;exact absurd e d|succ j=>cases a with
    |zero=>simp at c;subst c;exact absurd f d|succ a=>rw[Az n j a r b (by simpa using h1) (by simpa using c) e f]
def AA(b:Array Jz):ResultVar->Sem Jz
 |.tmp t=>pure (b.getD t undef)|.cell a t=>do loadVar t (<-asAddr (b.getD a undef))
theorem ma(h:aL P E w0 I0 n s a w I be){ob:V Nat}:∀{g:Z ResultVar}{rs:Z RV},gK P n s ob g rs->
  ∃(vs:Z Jz)(xs:Z cy),(g.mapM (AA a.tmps)).run P w=.ok vs w/\vs.length=rs.length/\xs.length=rs.length/\∀(j:Nat)(e:RV),rs[j]?=O e->∃v x,vs[j]?=O v/\xs[j]?=O x/\b4 P w I be s.b s.g v x/\sG P s ob x e
 |[],[],_=>⟨[],[],rfl,rfl,rfl,λj e h=>by simp at h⟩|.tmp t::g,r::rs,l=>by
  obtain⟨m,b,o⟩:=l;obtain⟨vs,xs,g1,g2,g3,p⟩:=ma h o;refine⟨a.tmps.getD t undef::vs,s.r t::xs,?_,by simp[g2],by simp[g3],λj e f=>?_⟩
  .simp only[List.mapM_cons,AA,b9,cF,cz,g1]
  .cases j with
   |zero=>simp at f;subst f;exact ⟨_,_,rfl,rfl,h.cu t m,b⟩|succ j=>exact p j e (by simpa using f)
 |.cell c t::g,r::rs,l=>by
  obtain⟨m,b,o⟩:=l;obtain⟨vs,xs,g1,g2,g3,p⟩:=ma h o;unfold r2 at b;split at b
  .rename_i d gg sz i k z;split at b
   .rename_i cs q;obtain⟨A,C⟩:=b;obtain⟨y,D,G⟩:=uM C;have u:=h.cu c m;rw[z]at u;obtain⟨B,H,e1⟩:=u.2 A (by simp[q]);obtain⟨cur,t',hw,hs,J⟩:=Ah (h.bG d _ q) H (i*sz+k);obtain⟨v,x,K,L,rfl⟩:=q5 J G;refine⟨v::vs,x::xs,?_,by simp[g2],by simp[g3],λj e f=>?_⟩
    .simp only[List.mapM_cons,AA,b9,cF,cz,e1,asAddr,K,g1]
    .cases j with
     |zero=>simp at f;subst f;exact ⟨_,_,rfl,rfl,L,D⟩|succ j=>exact p j e (by simpa using f)
   .exact b.elim
  .exact b.elim
 |[],_::_,h=>by cases h
 |.tmp _::_,[],h=>by cases h
 |.cell _ _::_,[],h=>by cases h
theorem Hw{a:Array Jz}{vs:Z Jz}(b:(fn.results.toList.mapM (AA a)).run P w=.ok vs w):(results fn a).run P w=.ok (if h:vs.toArray.size=1 then vs.toArray[0]else .tuple vs.toArray) w:=by
 have e:results fn a=(do
  let vs<-fn.results.mapM (AA a)
  pure (if h:vs.size=1 then vs[0]else .tuple vs)):=rfl
 rw[e,Array.mapM_eq_mapM_toList];simp only[b9,Sem.run_map];rw[b];rfl
theorem PQ{rs:Z RV}(h:aL P E w0 I0 fn.ntmps s a w I be)(C:(rs.filter eM).length<=1)(m:gK P fn.ntmps s ob fn.results.toList rs):
  ∃v,(results fn a.tmps).run P w=.ok v w/\∃bo,(nj P E w (oD I s be ob) (E.fresh w0) bo v rs/\(∀j g B,bo j=O B->bo g=O B->j=g)/\∀j B,bo j=O B->E.fresh w0 B)/\∀j B,bo j=O B->∃d,O d=ob/\s.b d≠Y/\be d=O B:=by
 obtain⟨vs,xs,hm,p,R,q⟩:=ma h m;have D:=Hw hm;let bo:Nat->V Nat:=λj=>match xs[j]?,rs[j]? with
  |some x,O b=>rj be x b|_,_=>Y
 have i:∀(j:Nat)(b:RV),rs[j]?=O b->∃v,vs[j]?=O v/\ml P E w (oD I s be ob) (E.fresh w0) (bo j) v b:=by intro j b f;obtain⟨v,x,hv,k,t,n⟩:=q j b f;refine⟨v,hv,?_⟩;simp only[bo,k,f];exact N7 h t n
 have G:∀j g B,bo j=O B->bo g=O B->j=g:=by
  intro j g B h1 o;have bU:∀j,bo j=O B->∃b,rs[j]?=O b/\eM b=W:=by
   intro j c;simp only[bo]at c;split at c
   .rename_i x b k f;refine⟨b,f,?_⟩;cases x<;>cases b<;>simp[rj]at c<;>rfl
   .cases c
  obtain⟨u,q1,H⟩:=bU j h1;obtain⟨y,J,K⟩:=bU g o;exact Az C j g u y q1 J H K
 have z:∀j B,bo j=O B->∃d,O d=ob/\s.b d≠Y/\be d=O B:=by
  intro j B c;simp only[bo]at c;split at c
  .rename_i x b k f;obtain⟨v,S,hv,l,t,n⟩:=q j b f;rw[k]at l;injection l with l;subst l;cases x<;>cases b<;>simp[rj]at c;rename_i d gg off len e ys;obtain⟨h1,_,_,xs,L,_⟩:=n;exact⟨d,h1,by simp[L],c⟩
  .cases c
 refine⟨_,D,bo,⟨?_,G,λj B c=>by obtain⟨d,_,N,Q⟩:=z j B c;exact(h.bU d B N Q).1⟩,z⟩;have many:rs.length≠1->∃us:Array Jz,(if h:vs.toArray.size=1 then vs.toArray[0]else .tuple vs.toArray)=.tuple us/\us.size=rs.length/\∀(j:Nat)(r:RV),rs[j]?=O r->ml P E w (oD I s be ob) (E.fresh w0) (bo j) (us.getD j undef) r:=by
  intro T;rw[dif_neg cM];refine⟨_,rfl,by simp[p],λj r m=>?_⟩;obtain⟨v,hv,f⟩:=i j r m;have:vs.toArray.getD j undef=v:=by simp only[jl,zP,hv,eP]
  rw[this];exact f
 match rs,i,many with
 |[r],i,_=>
  obtain⟨v,hv,f⟩:=i 0 r rfl;have h1:vs.length=1:=by rw[p];rfl
  have o:vs=[v]:=by
   match vs,h1,hv with
   |[x],_,A=>simp at A;rw[A]
  rw[iF (by simp[h1])];have e:vs.toArray[0]'(by simp[h1])=v:=by simp[o]
  rw[e];exact f
 |[],_,many=>exact many aE|u::y::rs,_,many=>exact many aE
theorem uW(h:aL P E w0 I0 n s a w I be)(ob:V Nat){T:Nat->Prop}(c:∀B,T B->∃d,s.b d≠Y/\be d=O B):my P E w0 w (oD I s be ob) s.a s.u T:=h.fS (.plus _ _ _) rfl (λ_=>False) (λ_ _ _ _ h=>h) (λ_ _ _=>rfl) (a6 _) (λ_ h=>h.elim) (λp f=>f.imp id λ⟨d,B,_,g,b,e⟩ i hi j=>(h.bb.bU i _ hi j).2.2.2.2 ⟨d,g,by rw[b,e]⟩) (λB b=>.inl (c B b))
theorem uX(h:gi P E w0 I0 fn.ntmps s a w)(c:PO P fn out a' u' .ret s):a.defers=[]/\∃v,(results fn a.tmps).run P w=.ok v w/\Ho P E w0 I0 w a' u' out (.returned v):=by
 obtain⟨I,be,b⟩:=h;cases out with
 |dO x=>exact c.elim|ret rs=>obtain⟨f,⟨g,rfl,rfl⟩,ob,i⟩:=c;obtain⟨v,k,bo,⟨l,m,n⟩,o⟩:=PQ b f i;have e:=b.defers;rw[g]at e;exact⟨e.JV,v,k,v,oD I s be ob,bo,rfl,uV b ob,l,m,n,uW b ob λB ⟨j,p⟩=>by obtain⟨d,_,q,r⟩:=o j B p;exact⟨d,q,r⟩⟩
theorem Fb{x:AV}(b:aL P E w0 I0 n s a w I be)(hv:cq w I v x)(c:Mi out a' u' x s):a.defers=[]/\Ho P E w0 I0 w a' u' out (.panicked [{v:=v,recovered:=F}]):=by
 cases out with
 |ret rs=>exact c.elim|dO y=>obtain⟨rfl,e,rfl,rfl⟩:=c;have d:=b.defers;rw[e]at d;exact⟨d.JV,v,oD I s be Y,rfl,uV b Y,hv.mono (.plus _ _ _),uW b Y λB h=>h.elim⟩
theorem tz{n:Nat}{b:Nat->V Bx}(d:k8 w I vs.toList args)(t:Nat):b4 P w I be b g ((vs++Array.replicate n undef).getD t undef) (((args.map cy.val)[t]?).getD .none):=by
 have e:vs.size=args.length:=by simpa using d.1
 by_cases a:t<args.length
 .have c:(args.map cy.val)[t]?=O (.val args[t]):=by simp[a]
  rw[c];have f:vs.toList[t]?=O vs[t]:=by simp[e,a]
  have h:=d.2 t vs[t] args[t] f (by simp[a]);have i:(vs++Array.replicate n undef).getD t undef=vs[t]:=by simp only[jl];rw[Tr M,qP M];rfl
  rw[i];exact h
 .have c:(args.map cy.val)[t]?=Y:=cM;rw[c];trivial
theorem DG{E:cm}{w0:zI}{I0:aD}{s:St}(i:P.funcs[f]?=O fn)(j:fn.body=O c)
  (g:gi P E w0 I0 fn.ntmps s {tmps:=vs++Array.replicate (fn.ntmps-vs.size) undef,defers:=[]} w0)
  (h:nL P E w0 I0 fn.ntmps c (PO P fn out a' u') (Mi out a' u') s):Calls P f vs w0 λe w=>Ho P E w0 I0 w a' u' out e:=by
 refine calls_of_wp i j (wp_mono (h _ _ g) λe a w d=>?_);cases e with
 |normal=>obtain ⟨s,g,b⟩:=d;exact uX g b|ret=>obtain ⟨s,g,b⟩:=d;exact uX g b
 |panic n=>obtain⟨x,v,s,I,be,rfl,h1,k,m⟩:=d;exact Fb k m h1|exit id=>obtain ⟨s,_,b⟩:=d;exact b.elim|goto l=>obtain ⟨s,_,b⟩:=d;exact b.elim
 |outgrown=>exact d.elim
theorem ye(b:P.funcs[f]?=O fn)(i:(fn.name== "runtime.NumGoroutine")=F)(e:fn.body=O c)(m:args.length<=fn.ntmps)
  (h:∀w0 I0,nL P E.plain w0 I0 fn.ntmps c (Xa P fn out) (acB out) (entry args)):nm P E f args out:=by
 refine⟨Go.Proofs.enters_of b i e,λw0 I0 vs j k g=>?_⟩;have n:vs.size=args.length:=by simpa using g.1
 refine DG b e ⟨I0,λ_=>Y,?_⟩ (h w0 I0);exact⟨eL.refl j k,cM,.nil,λt o=>tz g t,λd x l=>by simp[entry]at l,λd d' B a=>by simp[entry]at a,λd B a=>by simp[entry]at a,λd B h=>(by cases h),my.none λ_=>rfl⟩
theorem Fc{a:Nat->V Ob}{u:Nat->tl}(g:P.funcs[f]?=O fn)(l:(fn.name== "runtime.NumGoroutine")=F)(j:fn.body=O c)(v:args.length<=fn.ntmps)
  (h:∀w0 I0,nL P (E.dn a I0) w0 I0 fn.ntmps c (PO P fn out a' u') (Mi out a' u') (tx args a u)):np P E f args a u out a' u':=by
 refine⟨Go.Proofs.enters_of g l j,λw0 I0 vs m n e k=>?_⟩;have w:vs.size=args.length:=by simpa using k.1
 refine DG g j ⟨I0,λ_=>Y,?_⟩ (h w0 I0);refine⟨eL.refl (E:=E.dn a I0) m n,cM,.nil,λt y=>tz k t,λd x o=>by simp[tx]at o,λd d' B b=>by simp[tx]at b,λd B b=>by simp[tx]at b,λd B _ _ h=>by simp[tx]at h,e.hC,e.inj,λi B hi p=>?_,e.un,λi x h=>by cases h⟩;obtain⟨q1,q,r,s,_⟩:=e.bU i B hi p;exact⟨q1,q,r,s,λ⟨d,b,_⟩=>by simp[tx]at b⟩
end
inductive rk(b8:Array Oper):Nat->Nat->Prop
 |Xb (k:Nat) (o:Oper) (e:Edge) (h:b8[k]?=O o) (he:e∈o.after) (hb:Region.binds .any e=W):rk b8 k e.on
 |trans (k:Nat) (o:Oper) (e:Edge) (i:Nat) (h:b8[k]?=O o) (he:e∈o.after) (hb:Region.binds .any e=W) (h2:rk b8 e.on i):rk b8 k i
theorem AB{b8:Array JB}{k:Nat}{o:JB}(c:b8[k]?=O o)(acc:Array Nat)(f:∀(q i:Nat),(acc.getD q 0).testBit i=W->rk b8 q i):∀(l:Z Edge)(m:Nat),(∀e∈l,e∈o.after)->(∀i,m.testBit i=W->rk b8 k i)->
  ∀i,(l.foldl (λs e=>if Region.binds .any e then s|||2^e.on|||acc.getD e.on 0 else s) m).testBit i=W->rk b8 k i
 |[],m,_,hm,i,h=>hm i h|e::l,m,d,hm,i,h=>by
  simp only[sE]at h;refine AB c acc f l _ (λe' j=>d e' (by simp[j])) (λb a=>?_) i h;split at a
  .rename_i g;simp only[Nat.testBit_or,kS]at a;rcases a with(a|a)|a
   .exact hm b a
   .have:b=e.on:=by rw[JS]at a;simpa using(di a).symm
    subst this;exact .Xb k o e c (d e aE) g
   .exact .trans k o e b c (d e aE) g (f _ _ a)
  .exact hm b a
theorem uY(h:((Region.before b8).getD k 0).testBit i=W):rk b8 k i:=by
 have c:∀(l:Z JB)(acc:Array Nat),(∀j,l[j]?=b8[acc.size+j]?)->(∀(q i:Nat),(acc.getD q 0).testBit i=W->rk b8 q i)->
   ∀(q i:Nat),((l.foldl (λacc(o:JB)=>acc.push (o.after.foldl (λs e=>if Region.binds .any e then s|||2^e.on|||acc.getD e.on 0 else s) 0)) acc).getD q 0).testBit i=W->rk b8 q i:=by
  intro l;induction l with
  |nil=>intro acc _ a q i h;exact a q i h|cons o l d=>
   intro acc b a q i h;simp only[sE]at h;refine d _ (λj=>by have:=b (j+1);simpa[jd,jF 1]using this) (λq i h=>?_) q i h;by_cases f:q<acc.size
   .have:(acc.push (o.after.foldl (λs e=>if Region.binds .any e then s|||2^e.on|||acc.getD e.on 0 else s) 0)).getD q 0=acc.getD q 0:=by simp only[jl,Ha,ai (Nat.ne_of_lt f)]
    rw[this]at h;exact a q i h
   .by_cases g:q=acc.size
    .subst g;have m:b8[acc.size]?=O o:=by simpa using(b 0).symm
     have:(acc.push (o.after.foldl (λs e=>if Region.binds .any e then s|||2^e.on|||acc.getD e.on 0 else s) 0)).getD acc.size 0=o.after.foldl (λs e=>if Region.binds .any e then s|||2^e.on|||acc.getD e.on 0 else s) 0:=by simp[jl]
     rw[this,<-W8]at h;exact AB m acc a o.after.toList 0 (λe n=>by simpa using n) (λi h=>by simp at h) i h
    .have:(acc.push (o.after.foldl (λs e=>if Region.binds .any e then s|||2^e.on|||acc.getD e.on 0 else s) 0)).getD q 0=0:=by simp only[jl];rw[G8 cM];rfl
     rw[this]at h;simp at h
 unfold Region.before at h;rw[<-W8]at h;exact c b8.toList #[] (λj=>aE) (λq i h=>by simp at h) k i h
section
variable{P:qK}{E:cm}{w0:zI}{I0:aD}{n:Nat}{o:JB}{s:St}
theorem N8{x y:cy}{G:Prop}(a:∀k p k' q,x=.val (.fl (.int k p))->y=.val (.fl (.int k' q))->False)(b:∀p q,x=.val (.fl (.bool p))->y=.val (.fl (.bool q))->False)(h:G):PI P op t x y K G:=by
 unfold PI;split
 .exact (a _ _ _ _ rfl rfl).elim
 .exact (b _ _ rfl rfl).elim
 .exact h
end
section
variable{P:qK}{E:cm}{o:JB}{s s':St}
end
inductive Eff where
 |val (r:cy)
 |cells (cs:List cy)
 |box (d:Nat) (x:Bx)
section
variable{P:qK}{E:cm}{o:JB}{s s':St}{e:Eff}
end
def jz(b8:Array JB)(o:JB)(s:St):V tl:=
 match o.guard with
 |none=>O W|some (j,a)=>match(b8[j]?).bind (·.dst)with
  |some t=>tv s t a|none=>Y
section
variable{P:qK}{E:cm}{b8:Array JB}{o oi oj:JB}{s s':St}{e ei ej:Eff}
end
def wR(b8:Array JB)(listed:Array tl):Prop:=∀k o,b8[k]?=O o->listed.getD k W=W->∀e∈o.after,Region.binds .any e=W->listed.getD e.on F=W
section
variable{P:qK}{E:cm}{b8:Array JB}{K:St->Prop}
theorem Tx(h:listed.getD i W=F):listed.getD i F=F:=by
 rcases tf i listed.size with h'|h'
 .simp[h']at h⊢;exact h
 .simp[G8 h']at h
theorem Fe(h:listed.getD i F=W):listed.getD i W=W:=by
 rcases tf i listed.size with h'|h'
 .simp[h']at h⊢;exact h
 .simp[G8 h']at h
theorem uZ(d:wR b8 listed){q:Nat}(h:rk b8 q i):listed.getD q W=W->listed.getD i F=W:=by
 induction h with
 |Xb k o e h a b=>intro c;exact d k o h c e a b|trans k o e i h a b g f=>intro c;exact f (Fe (d k o h c e a b))
theorem Hx(f:wR b8 listed){q:Nat}(h:rk b8 q i)(g:q∈Region.ready .any b8 listed):listed.getD i F=W:=by
 obtain⟨_,k,c,d⟩:=mem_ready.1 g;cases h with
 |Xb _ o e h a b=>rw[c]at h;cases h;exact d e a b
 |trans _ o e i h a b j=>rw[c]at h;cases h;exact uZ f j (Fe (d e a b))
theorem wR.set (g:wR b8 listed) (h:j∈Region.ready .any b8 listed):wR b8 (listed.setIfInBounds j W):=by
 intro k o a b e c d;by_cases f:j=k
 .subst f;obtain⟨_,m,i,l⟩:=mem_ready.1 h;rw[i]at a;cases a;exact getD_set_true (l e c d)
 .rw[getD_set_ne W f]at b;exact getD_set_true (g k o a b e c d)
end
section
variable{P:qK}{E:cm}{w0:zI}{I0:aD}{n:Nat}{o:JB}{s:St}{b8:Array JB}
theorem M0{w:zI}(g:iJ n b8=W)(h:o∈b8)(c:jz b8 o s=O b)(i:gi P E w0 I0 n s a w):Region.wanted o (yielded b8 a.tmps)=b:=by
 have f:=qO.1 g o h;simp only[aI]at f;unfold jz at c;cases d:o.guard with
 |none=>simp only[d,ax]at c;simp[Region.wanted,d,c]|some p=>
  obtain⟨j,m⟩:=p;simp only[d]at c;cases e:(b8[j]?).bind (·.dst)with
  |none=>simp only[e]at c;cases c
  |some t=>
   simp only[e]at c;have k:t<n:=by have:=f.2;simp only[d,e]at this;simpa using this
   obtain⟨I,be,l⟩:=i;simp only[Region.wanted,d];exact tw l k e c
variable{Q:eA->St->Prop}{X:AV->St->Prop}
end
def aD.qt (I:aD) (i B:Nat):aD:=⟨I.mem,λj=>if j=i then O B else I.ar j⟩
section
variable{P:qK}{E:cm}{w0:zI}{I0:aD}{n:Nat}{s:St}{a:Act}{w w':zI}{I I':aD}{be:Nat->V Nat}{o:JB}{K:St->Prop}
theorem dD.qt {B:Nat} (h:I.ar i=Y):dD w w I (I.qt i B):=
 .sub (λ_ h=>h) λj B' a=>by
  have:j≠i:=λe=>by subst e;rw[h]at a;cases a
  simpa[aD.qt,this]using a
theorem aL.Kh (h:aL P E w0 I0 n s a w I be) (i:Nat) (Q:E.ro i=Y) (o:Ob) (B:Nat) (hi:s.a i≠Y) (q:I.ar i=O B) (R:w'.os=w.os) (S:w'.tape=w.tape) (T:w'.output=w.output) (i0:w'.heap.size=w.heap.size)
  (l:∀k,k≠B->w'.heap[k]?=w.heap[k]?) (H:∀B,gh w w' B) (r:dD w w' I I->oP P w' I B o):aL P E w0 I0 n {s with a:=aa s.a i (O o)} a w' I be:=by
 obtain⟨o1,o2,o3,J,U⟩:=h.bb.bU i B hi q;have G:dD w w' I I:=.world (λp v X hv=>by rw[dw (l p.block (o3 p X))];exact hv) H;have a0:=h.since.step (w':=w') (I':=I) R S T M (λk=>k=B) (λk _ u=>l k u) (λk u=>by subst u;exact ⟨o1,J⟩) H (λ_ h=>h) rfl (λ_ h=>.inl h);have K:∀b,E.cB w' b->E.cB w b:=(E.jm w w' h.since.h5 (λb b0=>l b (λe=>J (e▸b0)))).2;have L:∀d B',s.b d≠Y->be d=O B'->w'.heap[B']?=w.heap[B']?:=λd B' f m=>l B' λe=>U ⟨d,f,by rw[m,e]⟩;have f:∀d,s.g d<s.g d∨(s.g d=s.g d/\ff P w w' be be s.b s.b d):=λd=>.inr ⟨rfl,.h6 rfl rfl (λB g=>L d B g)⟩;refine⟨a0,h.size,h.defers.mono G,λt c0=>(h.cu t c0).cK G f,λd x N=>(h.bG d x N).cK G f rfl (λB'=>L d B' (by have r:s.b d=O x:=N;rw[r];exact λh=>by cases h)),h.inj,λd B' f m=>?_,h.sF,⟨λj x c=>?_,λj k B' d0 e0 f0 g0=>?_,λj B' c m=>?_,h.bb.un,λj y c=>?_⟩⟩
 .obtain ⟨q1,z,A,C⟩:=h.bU d B' f m;exact⟨q1,M,A,λD=>C (K _ D)⟩
 .by_cases e:j=i
  .subst e;simp only[bK,ax]at c;subst c;exact⟨B,q,r G⟩
  .simp only[aJ _ _ e]at c;obtain⟨B',q1,z⟩:=h.bb.hC j x c;exact⟨B',q1,z.cK G (l B' λe'=>e (h.bb.inj j i B (by simp[c]) hi (by rw[q1,e']) q))⟩
 .have g:∀j,aa s.a i (O o) j≠Y->s.a j≠Y:=λj c=>by
   by_cases e:j=i
   .subst e;exact hi
   .simpa only[aJ _ _ e]using c
  exact h.bb.inj j k B' (g j d0) (g k e0) f0 g0
 .have g:s.a j≠Y:=by
   by_cases e:j=i
   .subst e;exact hi
   .simpa only[aJ _ _ e]using c
  obtain⟨q1,z,A,C,h0⟩:=h.bb.bU j B' g m;exact⟨q1,M,A,λD=>C (K _ D),h0⟩
 .have e:j≠i:=λe=>by subst e;rw[Q]at c;cases c
  exact⟨(aJ _ _ e).trans (h.bb.ro j y c).1,(h.bb.ro j y c).2⟩
theorem aL.VU (h:aL P E w0 I0 n s a w I be) (K:E.dc=F) (i:Nat) (L:s.u i=F) (x:Ob) (B:Nat) (l:E.fresh w0 B/\B<w.heap.size/\(∀p,I p->p.block≠B)/\¬E.cB w B/\(∀d,s.b d≠Y->be d≠O B)/\∀j,s.a j≠Y->I.ar j≠O B) (o:oP P w (I.qt i B) B x):
  aL P E w0 I0 n {s with a:=aa s.a i (O x),u:=aa s.u i W} a w (I.qt i B) be:=by
 have J:=h.bb.un i L;have hi:s.a i=Y:=by
  cases N:s.a i with
  |none=>rfl|some y=>obtain⟨B',q,_⟩:=h.bb.hC i y N;rw[J]at q;cases q
 have G:dD w w I (I.qt i B):=.qt J;have Q:eL E w0 I0 w (I.qt i B):=by have:=h.since;exact⟨this.os,this.tape,this.output,this.size,this.block,this.cB,this.h5,this.qG,λj B' b=>G.ar j B' (this.ar j B' b),λo=>(by rw[K]at o;cases o),this.iq,this.new,this.lt,this.off⟩
 have C:∀d,s.g d<s.g d∨(s.g d=s.g d/\ff P w w be be s.b s.b d):=λd=>.inr ⟨rfl,λh=>⟨h,rfl⟩,λ_ _ _ h=>h⟩;have c:∀j,j≠i->(I.qt i B).ar j=I.ar j:=λj b=>by simp[aD.qt,b]
 have D:(I.qt i B).ar i=O B:=by simp[aD.qt]
 have A:∀j,j≠i->aa s.a i (O x) j≠Y->s.a j≠Y:=λj e b=>by simpa only[aJ _ _ e]using b
 refine⟨Q,h.size,h.defers.mono G,λt R=>(h.cu t R).cK G C,λd x o=>(h.bG d x o).cK G C rfl (λ_ _=>rfl),h.inj,h.bU,h.sF,⟨λj y b=>?_,λj k B' r H f g=>?_,λj B' b v=>?_,λj b=>?_,λj y b=>?_⟩⟩
 .by_cases e:j=i
  .subst e;simp only[bK,ax]at b;subst b;exact⟨B,D,o⟩
  .simp only[aJ _ _ e]at b;obtain⟨B',q1,S⟩:=h.bb.hC j y b;exact⟨B',(c j e).trans q1,S.cK G rfl⟩
 .by_cases z:j=i
  .by_cases m:k=i
   .rw[z,m]
   .subst z;rw[D]at f;injection f with f;subst f;rw[c k m]at g;exact absurd g (l.2.2.2.2.2 k (A k m H))
  .by_cases m:k=i
   .subst m;rw[D]at g;injection g with g;subst g;rw[c j z]at f;exact absurd f (l.2.2.2.2.2 j (A j z r))
   .rw[c j z]at f;rw[c k m]at g;exact h.bb.inj j k B' (A j z r) (A k m H) f g
 .by_cases e:j=i
  .subst e;rw[D]at v;injection v with v;subst v;exact⟨l.1,l.2.1,l.2.2.1,l.2.2.2.1,λ⟨d,C,T⟩=>l.2.2.2.2.1 d C T⟩
  .rw[c j e]at v;exact h.bb.bU j B' (A j e b) v
 .have e:j≠i:=λe=>by subst e;simp at b
  simp only[aJ _ _ e]at b;rw[c j e];exact h.bb.un j b
 .obtain ⟨r,H⟩:=h.bb.ro j y b;have e:j≠i:=λe=>by subst e;rw[hi]at r;cases r
  exact⟨(aJ _ _ e).trans r,(c j e).trans H⟩
theorem aL.PR (h:aL P E w0 I0 n s a w I be) (d:E.dc=F) (i:Nat) (c:s.u i=F) (x:Ob) {ob:Obj} (e:w'.os=w.os) (f:w'.tape=w.tape) (g:w'.output=w.output) (k:w'.heap=w.heap.push ob)
  (l:w'.heap[w.heap.size]?=O ob->dD w w' I (I.qt i w.heap.size)->oP P w' (I.qt i w.heap.size) w.heap.size x):
  aL P E w0 I0 n {s with a:=aa s.a i (O x),u:=aa s.u i W} a w' (I.qt i w.heap.size) be:=by
 obtain⟨h',m,b,o,p⟩:=h.fresh e f g k;exact h'.VU d i c x w.heap.size ⟨b.1,b.2.1,b.2.2.1,b.2.2.2.1,b.2.2.2.2,λj q=>p _ rfl j q⟩ (l m (o.trans (.qt (h.bb.un i c))))
theorem aL.PS (h:aL P E w0 I0 n s a w I be) (i:Nat) (d:E.ro i=Y):aL P E w0 I0 n {s with a:=aa s.a i Y} a w I be:=by
 have c:∀j,aa s.a i Y j≠Y->s.a j≠Y:=λj b=>by
  have e:j≠i:=λe=>by subst e;simp at b
  simpa only[aJ _ _ e]using b
 refine⟨h.since,h.size,h.defers,h.cu,h.bG,h.inj,h.bU,h.sF,⟨λj x b=>?_,λj k B f g=>h.bb.inj j k B (c j f) (c k g),λj B b=>h.bb.bU j B (c j b),h.bb.un,λj y b=>(by
  have e:j≠i:=λe=>by subst e;rw[d]at b;cases b
  exact⟨(aJ _ _ e).trans (h.bb.ro j y b).1,(h.bb.ro j y b).2⟩)⟩⟩
 have e:j≠i:=λe=>by subst e;simp at b
 simp only[aJ _ _ e]at b;exact h.bb.hC j x b
theorem aL.Hy (h:aL P E w0 I0 n s a w I be) (p:E.dc=F) (i:Nat) (l:s.u i=F) (d:Nat) (m:s.b d=O (.bi e xs)) {B:Nat} (f:be d=O B):
  aL P E w0 I0 n {s with b:=aa s.b d Y,a:=aa s.a i (O (.bi e xs)),u:=aa s.u i W} a w (I.qt i B) be:=by
 have g:s.b d≠Y:=by simp[m]
 obtain⟨o1,o2,o3,q⟩:=h.bU d B g f;have r:=h.drop d;have t:=h.bG d _ m;refine r.VU p i l (.bi e xs) B ⟨o1,o2,o3,q,λd' k v=>?_,λj y z=>(h.bb.bU j B y z).2.2.2.2 ⟨d,g,f⟩⟩ ?_
 .have e':d'≠d:=λe'=>by subst e';simp at k
  simp only[aJ _ _ e']at k;exact e' (h.inj d' d B k g v f)
 .obtain ⟨q1,A,C,o⟩:=t;rw[f]at o;obtain⟨cur,cap,D,G,H,J,K⟩:=o;exact⟨q1,A,C,cur,cap,D,G,H,J,λi j x c L N=>(K i j x c L N).mono (.qt (h.bb.un _ l))⟩
theorem aL.Tz (h:aL P E w0 I0 n s a w I be) (i d:Nat) (o:E.ro i=Y) (k:s.a i=O (.bi e xs)) {B:Nat} (f:I.ar i=O B):
  aL P E w0 I0 n {s with b:=aa s.b d (O (.bi e xs)),g:=aa s.g d (s.g d+1),a:=aa s.a i Y} a w I (aa be d (O B)):=by
 have l:s.a i≠Y:=by simp[k]
 obtain⟨o1,o2,o3,p,q⟩:=h.bb.bU i B l f;have r:=h.PS i o;refine r.nb d (.bi e xs) (O B) ?_ (λB' c=>?_) (λB' c j m t=>?_)
 .obtain ⟨B',q1,u⟩:=h.bb.hC i _ k;rw[f]at q1;injection q1 with q1;subst q1;obtain⟨v,x,y,z⟩:=u;refine⟨v,x,y,?_⟩;simp only[bK];exact z
 .injection c with c;subst c;exact⟨o1,o2,o3,p,λd' _ A C=>q ⟨d',A,C⟩⟩
 .injection c with c;subst c;have e:j≠i:=λe=>by subst e;simp at m
  have D:s.a j≠Y:=by simpa only[aJ _ _ e]using m
  exact e (h.bb.inj j i _ D l t f)
end
section
variable{P:qK}{E:cm}{w0:zI}{I0:aD}{n:Nat}{s:St}{fn:Pz}
end
section
variable{P:qK}{E:cm}{s:St}{b8:Array JB}{X:AV->St->Prop}{K:St->Prop}
end
def wS(n:Nat)(c:qm):tl:=bW c&&match c with
 |.tmp t=>decide (t<n)|_=>W
theorem Xc{Q:eA->St->Prop}{c:qm}{x y:F4}(a:wS n c=W)(d:s.ev c=.val (.fl (.bool b)))(e:b=W->nL P E w0 I0 n x Q X s)(f:b=F->nL P E w0 I0 n y Q X s):
  nL P E w0 I0 n (.cond c x y) Q X s:=by
 simp only[wS,aI]at a;exact PM ⟨a.1,λt g=>by subst g;simpa using a.2⟩ d e f
theorem oT(cs:Z AV):(AV.agg cs).cells=cs:=rfl
theorem DH{x:Int}(a:-9223372036854775808<=x)(b:x<=9223372036854775807):IntKind.i64.wrap x=x:=by simp only[IntKind.wrap,IntKind.bits,IntKind.signed];simp;omega
def mC(P:qK)(t:JA):V Nat:=
 match P.underlying t with
 |some (.int _)=>O 0|some .bool=>O 1
 |some .string=>O 2|_=>Y
def oU(P:qK):Nat->Z Field->V (Z Nat)
 |_,[]=>O []|i,f::fs=>if(f.name != "_" &&f.offset==i)=W then
   match mC P f.type,oU P (i+1) fs with
   |some k,O a=>O (k::a)|_,_=>Y
  else Y
def r3(P:qK)(t:JA):V (Z Nat):=
 match P.underlying t with
 |some (.struct fs)=>if(P.eqGuardType P.depth t||P.stoodInHeld t)=W then Y else oU P 0 fs.toList|_=>Y
def fF:Z Nat->Z AV->Z AV->V tl
 |[],[],[]=>O W|0::c,.fl (.int k a)::xs,.fl (.int k' b)::ys=>if k=k' then(fF c xs ys).map λr=>(a==b)&&r else Y
 |1::c,.fl (.bool a)::xs,.fl (.bool b)::ys=>(fF c xs ys).map λr=>(a==b)&&r|2::c,.fl (.string a)::xs,.fl (.string b)::ys=>(fF c xs ys).map λr=>(a.data.toList==b.data.toList)&&r
 |_,_,_=>Y
section
variable{P:qK}
theorem u6(a:mC P t=O k){xs:Array Jz}(c:xs[off]?=O v)(w:zI):(part t xs off).run P w=.ok v w:=by
 have e:k7 P t=O F:=by
  unfold mC at a;unfold k7;cases b:P.underlying t with
  |none=>simp[b]at a|some d=>cases d<;>simp[b]at a⊢
 simp only[part,b9,oQ e,cz,iA,cG,c,cF]
theorem mD:∀{f:Z Nat}{xs ys:Z AV}{e:tl},fF f xs ys=O e->∃us vs:Z Jz,xs=us.map .fl/\ys=vs.map .fl
 |[],[],[],e,h=>⟨[],[],rfl,rfl⟩|0::f,.fl (.int k a)::xs,.fl (.int k' b)::ys,e,h=>by
  simp only[fF]at h;split at h
  .obtain ⟨r,c,_⟩:=ck.1 h;obtain⟨us,vs,h1,d⟩:=mD c;exact⟨.int k a::us,.int k' b::vs,by simp[h1],by simp[d]⟩
  .cases h
 |1::f,.fl (.bool a)::xs,.fl (.bool b)::ys,e,h=>by simp only[fF]at h;obtain⟨r,c,_⟩:=ck.1 h;obtain⟨us,vs,h1,d⟩:=mD c;exact⟨.bool a::us,.bool b::vs,by simp[h1],by simp[d]⟩|2::f,.fl (.string a)::xs,.fl (.string b)::ys,e,h=>by simp only[fF]at h;obtain⟨r,c,_⟩:=ck.1 h;obtain⟨us,vs,h1,d⟩:=mD c;exact⟨.string a::us,.string b::vs,by simp[h1],by simp[d]⟩
theorem Zq(h:mC P t=O 0):∃k,P.underlying t=O (.int k):=by unfold mC at h;split at h<;>simp at h;rename_i k a;exact ⟨k,a⟩
theorem Zr(h:mC P t=O 1):P.underlying t=O .bool:=by unfold mC at h;split at h<;>simp at h;assumption
theorem Zs(h:mC P t=O 2):P.underlying t=O .string:=by unfold mC at h;split at h<;>simp at h;assumption
theorem u7(d:Nat)(w:zI)(X Yloc:Array Jz):∀(fs:Z Field)(s:Z Nat)(i:Nat)(xs ys:Z AV)(e:tl),oU P i fs=O s->
  (∀(j:Nat)(v:Jz),xs[j]?=O (.fl v)->X[i+j]?=O v)->(∀(j:Nat)(v:Jz),ys[j]?=O (.fl v)->Yloc[i+j]?=O v)->fF s xs ys=O e->(Op.eqFields (d+1) X Yloc fs).run P w=.ok e w
 |[],s,i,xs,ys,e,g,y,z,h=>by simp only[oU,ax]at g;subst g;cases xs<;>cases ys<;>simp[fF]at h;subst h;rfl
 |f::fs,s,i,xs,ys,e,g,y,z,h=>by
  simp only[oU]at g;split at g
  .rename_i t;simp only[aI,bne_iff_ne,gH]at t;split at g
   .rename_i k B q C;simp only[ax]at g;subst g;have step:∀(a b:Jz)(u x:Z AV)(c r:tl),xs=.fl a::u->ys=.fl b::x->(Op.equalIn (d+1) f.type a b).run P w=.ok c w->fF B u x=O r->e=(c&&r)->(Op.eqFields (d+1) X Yloc (f::fs)).run P w=.ok e w:=by
     intro a b u x c r m n D o l;subst m n;have E:=u6 q (xs:=X) (off:=f.offset) (v:=a) (by rw[t.2];exact y 0 a aE) w;have G:=u6 q (xs:=Yloc) (off:=f.offset) (v:=b) (by rw[t.2];exact z 0 b aE) w;have H:=u7 d w X Yloc fs B (i+1) u x r C (λj v A=>by rw[jd,jF 1 j];exact y (j+1) v (by simpa using A)) (λj v A=>by rw[jd,jF 1 j];exact z (j+1) v (by simpa using A)) o;simp only[Op.eqFields,aj t.1,b9,E,G,D,cz,Sem.run_ite];cases c with
     |false=>simp only[M3,ca,cF];rw[l];rfl|true=>simp only[kb,iA,cG,H];rw[l];rfl
    unfold fF at h;split at h
    .rename_i p;cases p
    .rename_i p;injection p with m n;subst m n;split at h
     .rename_i I;obtain⟨r,o,l⟩:=ck.1 h;obtain⟨k0,J⟩:=Zq q;subst I;exact step _ _ _ _ _ _ rfl rfl (run_equalIn_int w d f.type _ k0 _ _ J) o l.symm
     .cases h
    .rename_i p;injection p with m n;subst m n;obtain⟨r,o,l⟩:=ck.1 h;exact step _ _ _ _ _ _ rfl rfl (run_equalIn_bool' w d f.type _ _ (Zr q)) o l.symm
    .rename_i p;injection p with m n;subst m n;obtain⟨r,o,l⟩:=ck.1 h;refine step _ _ _ _ _ _ rfl rfl (run_equalIn_string w d f.type _ _ (Zs q)) o ?_;rw[Px,Px];exact l.symm
    .cases h
   .cases g
  .cases g
theorem oV:∀us:Z Jz,(us.map AV.fl).mapM Kb=O us
 |[]=>rfl|u::us=>by simp[Kb,oV us]
theorem Ff{o:JB}{x:qm}(c:o.op=.binOp op t x y t'){ys:Z AV}(g:s.ev x=.val (.agg xs))(i:s.ev y=.val (.agg ys)){d:Z Nat}(a:r3 P t=O d)
  {e:tl} (k:fF d xs ys=O e) (r:op=.eql∨op=.neq) (u:K (.val (.fl (.bool (if op=.eql then e else !e))))):Ax P o s K:=by
 obtain⟨us,vs,rfl,rfl⟩:=mD k;unfold r3 at a;split at a
 .rename_i fs l;split at a
  .cases a
  .rename_i b;simp only[kS,not_or,LY]at b;have A:P.underlying t=O (.struct (P.fieldsOf t)):=by simp[Program.fieldsOf,l]
   have B:P.fieldsOf t=fs:=by simp[Program.fieldsOf,l]
   have m:lB s x=.agg us.toArray:=by simp only[lB,g,mB,oC,oV,cj,eP]
   have n:lB s y=.agg vs.toArray:=by simp only[lB,i,mB,oC,oV,cj,eP]
   have p:∀w,(Op.equalIn 10000 t (.agg us.toArray) (.agg vs.toArray)).run P w=.ok e w:=λw=>by rw[run_equalIn_agg w 9999 t _ _ A b.2,B];exact u7 9998 w _ _ fs.toList d 0 _ _ e a (λj v f=>by simpa using f) (λj v f=>by simpa using f) k
   refine⟨.bool (if op=.eql then e else !e),λw=>?_,⟨rfl,λz q=>?_⟩,u⟩
   .rcases r with rfl|rfl
    .simp only[execOp,c,m,n,b9,run_eqGuard_agg w _ _ _ _ _ _ b.1,cz,run_eql_struct,p,cF,ca]
    .simp only[execOp,c,m,n,b9,run_eqGuard_agg w _ _ _ _ _ _ b.1,cz,run_neq_struct,p,cF,reduceCtorEq,cG]
   .simp only[c,Op.operands]at q;have:z=x∨z=y:=by simpa using q
    rcases this with rfl|rfl
    .rw[g];simp only[mB,oC,oV,cj,Option.isSome_some,ke];exact λh=>by cases h
    .rw[i];simp only[mB,oC,oV,cj,Option.isSome_some,ke];exact λh=>by cases h
 .cases a
end
def iV(P:qK)(t:JA)(cs:Z AV)(K:AV->Prop):Prop:=
 match k7 P t with
 |some W=>(0<P.cellsOf t/\P.cellsOf t<=cs.length)/\K (.agg (cs.take (P.cellsOf t)))|some F=>(0<P.cellsOf t/\P.cellsOf t<=cs.length)/\K (cs.headD (.fl undef))
 |none=>False
def u9(P:qK)(s:St)(t:JA)(r:cy)(K:cy->Prop):Prop:=
 match r with
 |.val (.ref cs)=>iV P t cs λv=>K (.val v)|.dT d gg sz i k=>
  match s.b d with
  |some (.cells cs)=>
   match k7 P t with
   |some W=>
    match cZ ((cs.drop (i*sz+k)).take (P.cellsOf t))with
    |some xs=>(gg=s.g d/\0<P.cellsOf t/\P.cellsOf t<=(cs.drop (i*sz+k)).length)/\K (.val (.agg xs))|none=>False
   |some F=>(gg=s.g d/\0<P.cellsOf t/\P.cellsOf t<=(cs.drop (i*sz+k)).length)/\K ((cs.drop (i*sz+k)).headD .none)|none=>False
  |some (.bi e xs)=>
   match xs[i]? with
   |some y=>(gg=s.g d/\sz=P.cellsOf e)/\iV P t (y.cells.drop k) λv=>K (.val v)|none=>False
  |none=>False
 |_=>False
def iK(P:qK)(s:St)(t:JA)(f:Nat)(r:cy)(K:cy->Prop):Prop:=
 match kj P t f with
 |some (off,_)=>
  match r with
  |.val (.ref cs)=>K (.val (.ref (cs.drop off)))|.dT d gg sz i k=>(gg=s.g d/\s.b d≠Y)/\K (.dT d gg sz i (k+off))
  |_=>False
 |none=>False
def iL(P:qK)(s:St)(t:JA)(x y:cy)(K:cy->Prop):Prop:=
 match ga P t with
 |some e=>
  match y with
  |.val (.fl (.int _ m))=>
   match x with
   |.val (.sl xs)=>
    match xs[m.toNat]? with
    |some z=>(0<P.cellsOf e/\0<=m/\z.cells.length=P.cellsOf e)/\K (.val (.ref z.cells))|none=>False
   |.bM xs=>
    match xs[m.toNat]? with
    |some z=>(0<P.cellsOf e/\0<=m/\z.cells.length=P.cellsOf e)/\K (.val (.ref z.cells))|none=>False
   |.view d gg off len=>(0<P.cellsOf e/\0<=m/\gg=s.g d/\(∃xs,s.b d=O (.bi e xs))/\m<len)/\K (.dT d gg (P.cellsOf e) (off+m.toNat) 0)|_=>False
  |_=>False
 |none=>False
def rl(o:V Jz)(K:cy->Prop):Prop:=
 match o with
 |some v=>K (.val (.fl v))|none=>False
def PT(P:qK)(op:VQ)(t:JA)(x y:cy)(K:cy->Prop)(G:Prop):Prop:=
 match x,y with
 |.val (.fl (.int k p)),.val (.fl (.int k' q))=>(k'=k∨kl op=W)/\rl (rf op k p q) K|.val (.fl (.bool p)),.val (.fl (.bool q))=>(P.underlying t=O .bool/\(op=.eql∨op=.neq))/\K (.val (.fl (.bool (if op=.eql then p==q else p !=q))))
 |.val (.fl (.string p)),.val (.fl (.string q))=>rl (l9 op p.data.toList q.data.toList) K|.val (.agg xs),.val (.agg ys)=>match r3 P t with
  |some a=>match fF a xs ys with
   |some e=>(op=.eql∨op=.neq)/\K (.val (.fl (.bool (if op=.eql then e else !e))))|none=>False
  |none=>False
 |_,_=>G
def jo(P:qK)(s:St)(t:JA)(xs:Z AV)(lo hi mx:V qm)(K:cy->Prop):Prop:=
 match ga P t with
 |some e=>
  match lU s 0 lo with
  |some l=>
   match lU s xs.length hi with
   |some q=>
    match mx with
    |none=>(0<P.cellsOf e/\(∀x∈xs,x.cells.length=P.cellsOf e)/\l<=q/\q<=xs.length)/\K (.val (.sl ((xs.drop l).take (q-l))))|some z=>(0<P.cellsOf e/\(∀x∈xs,x.cells.length=P.cellsOf e)/\l<=q/\q<=xs.length/\hi.isSome=W/\lU s 0 (O z)=O q)/\K (.bM ((xs.drop l).take (q-l)))
   |none=>False
  |none=>False
 |none=>False
def Fg(P:qK)(s:St)(t:JA)(x:cy)(lo hi mx:V qm)(K:cy->Prop):Prop:=
 match x with
 |.val (.sl xs)=>jo P s t xs lo hi mx K|.bM xs=>jo P s t xs lo hi mx K
 |.view d gg off len=>
  match ga P t with
  |some e=>
   match lU s 0 lo with
   |some l=>
    match lU s len hi with
    |some q=>(mx=Y/\gg=s.g d/\(∃xs,s.b d=O (.bi e xs))/\l<=q/\q<=len)/\K (.view d gg (off+l) (q-l))|none=>False
   |none=>False
  |none=>False
 |.val (.fl (.string xs))=>
  match lU s 0 lo with
  |some l=>
   match lU s xs.data.toList.length hi with
   |some h=>(mx=Y/\P.underlying t=O .string/\l<=h/\h<=xs.data.toList.length)/\K (.val (.fl (bs ((xs.data.toList.drop l).take (h-l)))))|none=>False
  |none=>False
 |_=>False
def PU(P:qK)(src dst:JA):V Pv:=
 match P.underlying src,P.underlying dst with
 |some _,O (.int k)=>O k|_,_=>Y
def fU(P:qK)(o:JB)(s:St)(K:cy->Prop):Prop:=
 match o.op with
 |.move x=>K (s.ev x)|.pick c x y=>match s.ev c with
  |.val (.fl (.bool b))=>if b=W then K (s.ev x)else K (s.ev y)|_=>False
 |.load t x=>u9 P s t (s.ev x) K|.fieldAddr t x f=>iK P s t f (s.ev x) K
 |.indexAddr t x y=>iL P s t (s.ev x) (s.ev y) K|.extract x k=>match s.ev x with
  |.fK rs=>match rs[k]? with
   |some r=>K r|none=>False
  |_=>False
 |.field t x f=>match kj P t f with
  |some (off,a)=>match s.ev x with
   |.val (.agg cs)=>iV P a (cs.drop off) λv=>K (.val v)|_=>False
  |none=>False
 |.makeFunc (.func f) first caps=>match cP s caps.toList with
  |some xs=>first.toList=[]/\K (.val (.fn f xs))
  |none=>False
 |.makeInterface t x=>match bu (s.ev x)with
  |some v=>P.concrete t=W/\K (.val (.mQ t v))|none=>False
 |.build t d=>match ki P t with
  |some pl=>match ng P t with
   |some z=>match iu s pl d.toList with
    |some ps=>(pl.all λp=>decide (p.1+p.2<=z.cells.length))=W/\K (.val (.agg (dj z.cells ps)))|none=>False
   |none=>False
  |none=>False
 |.slice t x lo hi mx=>Fg P s t (s.ev x) lo hi mx K|.index t x y=>match s.ev x with
  |.val (.fl (.string l))=>match s.ev y with
   |.val (.fl (.int _ m))=>match l.data.toList[m.toNat]? with
    |some c=>(P.underlying t=O .string/\0<=m)/\K (.val (.fl (.int .u8 c.toNat)))|none=>False
   |_=>False
  |_=>False
 |.binOp op t x y _=>PT P op t (s.ev x) (s.ev y) K (Ax P o s K)|.unOp .not _ x=>match s.ev x with
  |.val (.fl (.bool p))=>K (.val (.fl (.bool (!p))))|_=>False
 |.unOp .neg _ x=>match s.ev x with
  |.val (.fl (.int k p))=>K (.val (.fl (.int k (k.wrap (0-p)))))|_=>False
 |.convert src dst x=>match s.ev x with
  |.val (.fl (.int _ n))=>match PU P src dst with
   |some k'=>K (.val (.fl (.int k' (k'.wrap n))))|none=>Ax P o s K
  |_=>Ax P o s K
 |_=>False
section
variable{P:qK}{E:cm}{o:JB}{s:St}
theorem oW{cs:Z AV}{K:AV->Prop}(h:iV P t cs K):jh P t cs K:=by
 unfold iV at h;unfold jh;split at h
 .rename_i a;rw[a];exact ⟨h.1.1,h.1.2,h.2⟩
 .rename_i a;rw[a];exact ⟨h.1.1,h.1.2,h.2⟩
 .exact h.elim
theorem Mj(h:u9 P s t r K):Mh P s t r K:=by
 unfold u9 at h;split at h
 .exact oW h
 .rename_i d gg sz i k;unfold Mh;split at h
  .rename_i cs a;simp only[a];unfold iG;split at h
   .rename_i b;rw[b];split at h
    .rename_i xs c;exact ⟨h.1.1,h.1.2.1,h.1.2.2,xs,c,h.2⟩
    .exact h.elim
   .rename_i b;rw[b];exact ⟨h.1.1,h.1.2.1,h.1.2.2,h.2⟩
   .exact h.elim
  .rename_i e xs a;simp only[a];split at h
   .rename_i y f;exact ⟨h.1.1,h.1.2,y,f,oW h.2⟩
   .exact h.elim
  .exact h.elim
 .exact h.elim
theorem Fh{f:Nat}(h:iK P s t f r K):Av P s t f r K:=by
 unfold iK at h;split at h
 .rename_i off a b;refine⟨off,a,b,?_⟩;split at h<;>first|exact h|exact h.elim
 .exact h.elim
theorem Fi{x y:cy}(h:iL P s t x y K):Aw P s t x y K:=by
 unfold iL at h;split at h
 .rename_i e he;split at h
  .split at h
   .split at h
    .rename_i z hz;exact ⟨e,he,h.1.1,h.1.2.1,z,hz,h.1.2.2,h.2⟩
    .exact h.elim
   .split at h
    .rename_i z hz;exact ⟨e,he,h.1.1,h.1.2.1,z,hz,h.1.2.2,h.2⟩
    .exact h.elim
   .exact ⟨e,he,h.1.1,h.1.2.1,h.1.2.2.1,h.1.2.2.2.1,h.1.2.2.2.2,h.2⟩
   .exact h.elim
  .exact h.elim
 .exact h.elim
theorem AD{o:V Jz}(h:rl o K):∃v,o=O v/\K (.val (.fl v)):=by
 unfold rl at h;split at h
 .exact ⟨_,rfl,h⟩
 .exact h.elim
theorem AE(b:ByteArray):Value.string b=bs b.data.toList:=by cases b;simp[bs]
theorem Xd{x y:cy}{b:Prop}(d:∀xs ys c e,x=.val (.agg xs)->y=.val (.agg ys)->r3 P t=O c->fF c xs ys=O e->(op=.eql∨op=.neq)->K (.val (.fl (.bool (if op=.eql then e else !e))))->b)(h:PT P op t x y K b):PI P op t x y K ((∃p q,x=.val (.fl (bs p))/\y=.val (.fl (bs q))/\∃v,l9 op p q=O v/\K (.val (.fl v)))∨b):=by
 unfold PT at h;split at h
 .obtain ⟨v,h1,a⟩:=AD h.2;exact ⟨h.1,v,h1,a⟩
 .exact h
 .rename_i p q;obtain⟨v,h1,a⟩:=AD h;exact .inl ⟨_,_,by rw[AE],by rw[AE],v,h1,a⟩
 .rename_i xs ys;split at h
  .rename_i c f;split at h
   .rename_i e g;exact .inr (d _ _ _ _ rfl rfl f g h.1 h.2)
   .exact h.elim
  .exact h.elim
 .rename_i h1 a i j;exact N8 h1 a (.inr h)
theorem AF(h:jo P s t xs lo hi mx K):uT P s t xs lo hi mx K:=by
 unfold jo at h;split at h
 .rename_i e a;split at h
  .rename_i l b;split at h
   .rename_i q c;split at h
    .exact ⟨e,a,l,q,b,c,h.1,h.2⟩
    .obtain ⟨⟨d,f,g,i,j,k⟩,m⟩:=h;exact⟨e,a,l,q,b,c,⟨d,f,g,i⟩,j,k,m⟩
   .exact h.elim
  .exact h.elim
 .exact h.elim
theorem PV{x:cy}(h:Fg P s t x lo hi mx K):Kg P s t x lo hi mx K (mx=Y/\P.underlying t=O .string/\∃xs,x=.val (.fl (bs xs))/\∃l h,lU s 0 lo=O l/\lU s xs.length hi=O h/\(l<=h/\h<=xs.length)/\K (.val (.fl (bs ((xs.drop l).take (h-l)))))):=by
 unfold Fg at h;split at h
 .exact AF h
 .exact AF h
 .split at h
  .rename_i e he;split at h
   .rename_i l a;split at h
    .rename_i q b;obtain⟨⟨c,d,f,g,i⟩,j⟩:=h;exact⟨c,e,he,d,f,l,q,a,b,⟨g,i⟩,j⟩
    .exact h.elim
   .exact h.elim
  .exact h.elim
 .split at h
  .rename_i l a;split at h
   .rename_i q b;obtain⟨⟨c,d,f,g⟩,i⟩:=h;exact⟨c,d,_,by rw[AE],l,q,a,b,⟨f,g⟩,i⟩
   .exact h.elim
  .exact h.elim
 .exact h.elim
theorem N9(h:fU P o s K):rZ P o s K:=by
 unfold fU at h;unfold rZ;cases i:o.op<;>simp only[i]at h⊢;case move x=>exact h
 case pick c x y=>
  split at h
  .rename_i b u;refine⟨b,u,?_⟩;cases b<;>simpa using h
  .exact h.elim
 case load t x=>exact Mj h
 case fieldAddr t x f=>exact Fh h
 case indexAddr t x y=>exact Fi h
 case extract x k=>
  split at h
  .rename_i rs a;split at h
   .rename_i r j;exact ⟨rs,r,a,j,h⟩
   .exact h.elim
  .exact h.elim
 case field t x f=>
  split at h
  .rename_i off G A;split at h
   .rename_i cs a;exact ⟨off,G,A,cs,a,oW h⟩
   .exact h.elim
  .exact h.elim
 case makeFunc fn first caps=>
  cases fn<;>simp only at h⊢;split at h
  .rename_i xs a;exact ⟨h.1,xs,a,h.2⟩
  .exact h.elim
 case makeInterface t x=>
  split at h
  .rename_i v hv;exact ⟨v,hv,h.1,h.2⟩
  .exact h.elim
 case build t U=>
  split at h
  .rename_i pl H;split at h
   .rename_i z I;split at h
    .rename_i ps J;exact ⟨pl,H,z,I,ps,J,h.1,h.2⟩
    .exact h.elim
   .exact h.elim
  .exact h.elim
 case slice t x lo hi mx=>exact PV h
 case index t x y=>
  split at h
  .rename_i l L;split at h
   .rename_i k m N;split at h
    .rename_i c u;exact ⟨h.1.1,_,by rw[L,AE],k,m,N,h.1.2,c,u,h.2⟩
    .exact h.elim
   .exact h.elim
  .exact h.elim
 case binOp op t x y t'=>exact Xd (λxs ys X e B q Q R S T=>Ff i B q Q R S T) h
 case unOp op t x=>
  cases op<;>simp only at h⊢
  .split at h
   .rename_i k p a;exact ⟨k,p,a,h⟩
   .exact h.elim
  .split at h
   .rename_i p a;exact ⟨p,a,h⟩
   .exact h.elim
 case convert t t' x=>
  split at h
  .rename_i k n a;split at h
   .rename_i k' g;unfold PU at g;split at g
    .rename_i d C B q;simp only[ax]at g;subst g;refine⟨.int C (C.wrap n),λw=>?_,⟨rfl,λy D=>?_⟩,h⟩
     .have A:lB s x=.int k n:=by simp[lB,a,mB,oC]
      have E:P.intKind t'=C:=by simp[Program.intKind,q]
      have j:=run_convert_int (P:=P) w t t' k n (by rw[B];rfl) (by rw[E];exact q);rw[E]at j;simp[execOp,i,A,j]
     .simp only[i,Op.operands]at D;have:y=x:=by simpa using D
      subst this;rw[a];exact⟨rfl,aE⟩
    .cases g
   .exact h
  .exact h
theorem PW(h:fU P o s K):E9 P o s K:=.inl (N9 h)
end
theorem bind_some{β:Type}{o:V α}{k:α->V β}{r:β}(h:o.bind k=O r):∃x,o=O x/\k x=O r:=by
 cases o with
 |none=>cases h
 |some x=>exact ⟨x,rfl,h⟩
def aR{α:Type}(l:Z α)(i:Int):V α:=if 0<=i then l[i.toNat]? else Y
theorem DI{l:Z α}{i:Int}{x:α}(h:aR l i=O x):0<=i/\l[i.toNat]?=O x/\i<(l.length:Int):=by
 unfold aR at h;split at h
 .rename_i hi;refine⟨hi,h,?_⟩;have:=(aY.1 h).1;omega
 .cases h
def cR(b:tl):V xW:=if b=W then O ()else Y
theorem dp{u:xW}(h:cR b=O u):b=W:=by
 unfold cR at h;split at h
 .assumption
 .cases h
theorem aL.Hz {w:zI} {I:aD} (h:aL P E w0 I0 n s a w I be) (d:Nat):
  aL P E w0 I0 n {s with b:=aa s.b d Y} a w (I.plus λp=>∃B,s.b d≠Y/\be d=O B/\p.block=B) be:=by
 have c:=h.drop d;have o:∀d',s.g d'<s.g d'∨(s.g d'=s.g d'/\ff P w w be be (aa s.b d Y) (aa s.b d Y) d'):=λd'=>.inr ⟨rfl,λh=>⟨h,rfl⟩,λ_ _ _ h=>h⟩;refine⟨h.since.step (w':=w) rfl rfl rfl (a6 _) (λ_=>False) (λ_ _ _=>rfl) (λ_ u=>u.elim) (gh.refl w) (λ_ h=>.inl h) rfl ?_,c.size,c.defers.mono (.plus _ _ _),
  λt v=>(c.cu t v).cK (.plus _ _ _) o,λd' x y=>(c.bG d' x y).cK (.plus _ _ _) o rfl (λ_ _=>rfl),c.inj,λd' B k g=>?_,c.sF,
  c.fS (.plus _ _ _) rfl (λ_=>False) (λ_ _ _ _ h=>h) (λ_ _ _=>rfl) (a6 _) (λ_ h=>h.elim) (λp f=>f.imp id λ⟨B,j,g,e⟩ i hi z=>(h.bb.bU i _ hi z).2.2.2.2 ⟨d,j,by rw[g,e]⟩) (λ_ h=>.inl h)⟩
 .rintro p (f|⟨B,j,g,rfl⟩)
  .exact .inl f
  .obtain ⟨q1,l,q,m⟩:=h.bU d _ j g;exact .inr ⟨q1,l,m⟩
 .obtain ⟨q1,l,q,m⟩:=c.bU d' B k g;refine⟨q1,l,λp f e=>?_,m⟩;rcases f with f|⟨B',j,A,e'⟩
  .exact q p f e
  .have r:d'≠d:=λe=>k (by subst e;simp);have C:s.b d'≠Y:=by simpa only[aJ _ _ r]using k
   have D:B'=B:=e'.symm.trans e;subst D;exact r (h.inj d' d B' C j g A)
theorem PX{w:zI}(t d:Nat){e:Nat}(k:s.r t=.view d gg off len)(l:gg=s.g d)(g:s.b d=O (.bi e xs))(h:gi P E w0 I0 n s a w):
  gi P E w0 I0 n {s with r:=aa s.r t (.val (.sl ((xs.drop off).take len))),b:=aa s.b d Y} a w:=by
 obtain⟨I,be,h⟩:=h;have c:=h.Hz d;refine⟨_,be,c.since,c.size,c.defers,λt' i=>?_,c.bG,c.inj,c.bU,c.sF,c.bb⟩;by_cases j:t'=t
 .subst j;have f:=h.cu t' i;rw[k]at f;simp only[bK];exact uL g (h.bG d _ g) (f.2 l) (.plus _ _ _) (λB m p o=>.inr ⟨B,by simp[g],m,o⟩)
 .have f:=c.cu t' i;simpa only[aJ _ _ j]using f
section
variable{P:qK}{E:cm}{o:JB}{s:St}{b8:Array JB}{X:AV->St->Prop}{K:St->Prop}{rest:Z JB}
end
def iM(d gg:Nat)(c:Nat->Nat->V AV):cy->cy
 |.view d' g' off len=>if d'=d/\g'=gg then(match c off len with|some x=>.val x|none=>.none)else .view d' g' off len
 |r=>r
def PY(d gg:Nat)(c:Nat->Nat->V AV):Bx->Bx
 |.cells cs=>.cells (cs.map (iM d gg c))|x=>x
def Oa(b:Nat->V Bx)(d gg:Nat)(c:Nat->Nat->V AV):Nat->V Bx:=λd'=>if d'=d then Y else(b d').map (PY d gg c)
def St.cv (s:St) (d:Nat) (c:Nat->Nat->V AV):St:={s with r:=λt=>iM d (s.g d) c (s.r t),b:=Oa s.b d (s.g d) c}
section
variable{P:qK}{E:cm}{w0:zI}{I0:aD}{n:Nat}{s:St}{a:Act}{w:zI}{I I':aD}{be:Nat->V Nat}
theorem Ki{b:Nat->V Bx}{c:Nat->Nat->V AV}(h:Oa b d gg c d'≠Y):d'≠d/\b d'≠Y:=by
 unfold Oa at h;split at h
 .exact (h rfl).elim
 .rename_i a;exact⟨a,λe=>h (by rw[e];rfl)⟩
theorem PZ{b:Nat->V Bx}{c:Nat->Nat->V AV}(h:eg P w be b d' off len v):eg P w be (Oa b d gg c) d' off len v:=by
 unfold eg at h⊢;unfold Oa;by_cases a:d'=d
 .simp[a]
 .simp only[a,cG];cases f:b d' with
  |none=>simp|some x=>
   rw[f]at h;cases x with
   |cells cs=>simp[PY]|bi e xs=>simpa[PY]using h
theorem DJ{b:Nat->V Bx}{c:Nat->Nat->V AV}(a:dD w w I I')
  (i:∀off len v x,eg P w be b d off len v->c off len=O x->cq w I' v x) (h:b4 P w I be b g v r):b4 P w I' be (Oa b d (g d) c) g v (iM d (g d) c r):=by
 have e:∀d',g d'<g d'∨(g d'=g d'/\ff P w w be be b (Oa b d (g d) c) d'):=λd'=>.inr ⟨rfl,λh=>⟨(Ki h).2,rfl⟩,λoff len v h=>PZ h⟩;cases r with
 |view d' gg off len=>
  by_cases f:d'=d/\gg=g d
  .obtain ⟨rfl,rfl⟩:=f;simp only[iM,and_self,ca];cases j:c off len with
   |none=>trivial|some x=>exact i off len v x (h.2 rfl) j
  .simp only[iM,f,cG];exact b4.cK (w:=w) (w':=w) a e h
 |_=>exact b4.cK (w:=w) (w':=w) a e h
theorem aL.conv (h:aL P E w0 I0 n s a w I be) (d:Nat) (h':aL P E w0 I0 n {s with b:=aa s.b d Y,a:=a',u:=u'} a w I' be) (c:Nat->Nat->V AV) (o:dD w w I I')
  (G:∀off len v x,eg P w be s.b d off len v->c off len=O x->cq w I' v x):aL P E w0 I0 n {s.cv d c with a:=a',u:=u'} a w I' be:=by
 have m:∀d',Oa s.b d (s.g d) c d'≠Y->aa s.b d Y d'≠Y:=λd' p=>by obtain⟨h1,f⟩:=Ki p;rw[aJ _ _ h1];exact f
 refine⟨h'.since,h'.size,h'.defers,λt N=>DJ o G (h.cu t N),λd' x Q=>?_,λg H B h1 f=>h'.inj g H B (m g h1) (m H f),λg B h1=>h'.bU g B (m g h1),λg bo h1 f l=>h'.sF g bo h1 f (m g l),?_⟩
 .have q:Oa s.b d (s.g d) c d'=O x:=Q;obtain⟨p,_⟩:=Ki (by rw[q];simp:Oa s.b d (s.g d) c d'≠Y);simp only[Oa,p,cG,ck]at q;obtain⟨y,R,rfl⟩:=q;have J:=h.bG d' y R;cases y with
  |cells cs=>obtain⟨B,cur,t,h1,f,l,k⟩:=J;refine⟨B,cur,t,h1,f,by simpa using l,λj r K=>?_⟩;simp only[dC,ck]at K;obtain⟨S,T,rfl⟩:=K;exact DJ o G (k j S T)|bi e ys=>
   obtain⟨h1,f,l,k⟩:=J;refine⟨h1,f,l,?_⟩;cases L:be d' with
   |none=>rw[L]at k;exact k|some B=>rw[L]at k;obtain⟨cur,cap,q1,z,A,C,D⟩:=k;exact⟨cur,cap,q1,z,A,C,λi j x c h1 f=>(D i j x c h1 f).mono o⟩
 .refine ⟨h'.bb.hC,h'.bb.inj,λi B h1 f=>?_,h'.bb.un,h'.bb.ro⟩;obtain⟨q1,z,A,C,D⟩:=h'.bb.bU i B h1 f;exact⟨q1,z,A,C,λ⟨g,l,k⟩=>D ⟨g,m g l,k⟩⟩
theorem tA{e:Nat}(b:s.b d=O (.bi e xs))(h:gi P E w0 I0 n s a w):gi P E w0 I0 n (s.cv d λoff len=>O (.sl ((xs.drop off).take len))) a w:=by obtain⟨I,be,h⟩:=h;have g:=h.Hz d;have f:dD w w I (I.plus λp=>∃B,s.b d≠Y/\be d=O B/\p.block=B):=.plus _ _ _;refine⟨_,be,h.conv (a':=s.a) (u':=s.u) d g (λoff len=>O (.sl ((xs.drop off).take len))) f λoff len v x hv c=>?_⟩;injection c with c;subst c;exact uL b (h.bG d _ b) hv f (λB i p j=>.inr ⟨B,by simp[b],i,j⟩)
def pI(i sz:Nat)(off len:Nat):V AV:=if off=0 then O (.view i sz len)else Y
theorem AG(h:aL P E w0 I0 n s a w I be){e B:Nat}(b:s.b d=O (.bi e xs))(c:be d=O B)(hv:eg P w be s.b d 0 len v):cq w (I.qt i B) v (.view i (P.cellsOf e) len):=by
 unfold eg at hv;simp only[b,c]at hv;obtain⟨l,cur,cap,A,h1,f,rfl,m⟩:=hv;obtain⟨o,_,_,g⟩:=h.bG d _ b;rw[c]at g;obtain⟨r,j,q1,p,t,u,_⟩:=g;rw[h1]at q1;injection q1 with q1;injection q1 with q1 _;subst q1;have k:j=cap:=k6 o (p.symm.trans f);subst k;have q:(I.qt i B).ar i=O B:=by simp[aD.qt]
 exact cq.view i (P.cellsOf e) len B (j-0) e cur A q h1 (by simpa using f) (by simp at l;omega) (λk=>by simpa using m M)
theorem Kj{e:Nat}(hi:i%1000<2)(f:s.b d=O (.bi e []))(h:gi P E w0 I0 n s a w):gi P E w0 I0 n (s.cv d (pI i sz)) a w:=by
 obtain⟨I,be,h⟩:=h;refine⟨I,be,h.conv d (h.drop d) _ (dD.refl w I) λoff len v x hv b=>?_⟩;unfold pI at b;split at b
 .rename_i h0;subst h0;injection b with b;subst b;unfold eg at hv;simp only[f]at hv;obtain⟨j,hv⟩:=hv;have:len=0:=by simp at j;omega
  subst this;cases c:be d with
  |none=>rw[c]at hv;obtain ⟨A,rfl⟩:=hv;exact .kV i sz A 0 (dS _) hi|some B=>rw[c]at hv;obtain⟨cur,cap,A,g1,g2,rfl,_⟩:=hv;obtain⟨k,_,_,g⟩:=h.bG d _ f;rw[c]at g;obtain⟨o,l,q1,m,p,_⟩:=g;rw[g1]at q1;cases q1;have q:l=cap:=k6 k (m.symm.trans g2);exact .kV i sz A _ M hi
 .cases b
theorem HA(t:Nat){e:Nat}(hi:i%1000<2)(o:s.r t=.view d gg 0 len)(p:gg=s.g d)(j:s.b d=O (.bi e []))(h:gi P E w0 I0 n s a w):
  gi P E w0 I0 n {s with r:=aa s.r t (.val (.view i sz 0)),b:=aa s.b d Y} a w:=by
 obtain⟨I,be,h⟩:=h;have c:=h.drop d;refine⟨I,be,c.since,c.size,c.defers,λt' k=>?_,c.bG,c.inj,c.bU,c.sF,c.bb⟩;by_cases l:t'=t
 .subst l;have f:=h.cu t' k;rw[o]at f;simp only[bK];have hv:=f.2 p;unfold eg at hv;simp only[j]at hv;obtain⟨q,hv⟩:=hv;have u:len=0:=by simp at q;omega
  subst u;cases g:be d with
  |none=>rw[g]at hv;obtain ⟨A,hv⟩:=hv;rw[hv];exact cq.kV i sz A 0 (dS _) hi|some B=>rw[g]at hv;obtain⟨cur,cap,A,g1,g2,hv,_⟩:=hv;obtain⟨v,_,_,m⟩:=h.bG d _ j;rw[g]at m;obtain⟨z,x,q1,y,C,_⟩:=m;rw[g1]at q1;cases q1;have D:x=cap:=k6 v (y.symm.trans g2);rw[hv];exact cq.kV i sz A _ M hi
 .have f:=c.cu t' k;simpa only[aJ _ _ l]using f
theorem Oc(k:E.dc=F){e:Nat}(c:s.b d=O (.bi e xs))(g:s.u i=F)(l:xs≠[])(h:gi P E w0 I0 n s a w):
  gi P E w0 I0 n {s.cv d (pI i (P.cellsOf e))with a:=aa s.a i (O (.bi e xs)),u:=aa s.u i W} a w:=by
 obtain⟨I,be,h⟩:=h;cases f:be d with
 |none=>obtain⟨_,_,_,j⟩:=h.bG d _ c;rw[f]at j;exact(l j).elim|some B=>
  have m:=h.Hy k i g d c f;have o:dD w w I (I.qt i B):=.qt (h.bb.un i g);refine⟨_,be,h.conv d m _ o λoff len v x hv b=>?_⟩;unfold pI at b;split at b
  .rename_i h0;subst h0;injection b with b;subst b;exact AG h c f hv
  .cases b
theorem Kk(o:E.dc=F)(t:Nat){e:Nat}(p:s.r t=.view d gg 0 len)(q:gg=s.g d)(g:s.b d=O (.bi e xs))(v:s.u i=F)(x:xs≠[])(h:gi P E w0 I0 n s a w):
  gi P E w0 I0 n {s with r:=aa s.r t (.val (.view i (P.cellsOf e) len)),b:=aa s.b d Y,a:=aa s.a i (O (.bi e xs)),u:=aa s.u i W} a w:=by
 obtain⟨I,be,h⟩:=h;cases j:be d with
 |none=>obtain⟨_,_,_,k⟩:=h.bG d _ g;rw[j]at k;exact(x k).elim|some B=>
  have c:=h.Hy o i v d g j;refine⟨_,be,c.since,c.size,c.defers,λt' l=>?_,c.bG,c.inj,c.bU,c.sF,c.bb⟩;by_cases m:t'=t
  .subst m;have f:=h.cu t' l;rw[p]at f;simp only[bK];exact AG h g j (f.2 q)
  .have f:=c.cu t' l;simpa only[aJ _ _ m]using f
end
section
variable{P:qK}{E:cm}{w0:zI}{I0:aD}{n:Nat}{o:JB}{s:St}
theorem va(a:P.underlying t=O (.pointer e))(p:V Mc)(w:zI):(Op.equal t (.pointer p) (.pointer Y)).run P w=.ok p.isNone w:=by
 have h:∀d:Nat,(Op.equalIn (d+1) t (.pointer p) (.pointer Y)).run P w=.ok p.isNone w:=λd=>by cases p<;>simp[Op.equalIn,ef a]
 exact h 9999
theorem vb{k:JA}(a:P.underlying t=O (.map k e))(p:V Nat)(w:zI):(Op.equal t (.map p) (.map Y)).run P w=.ok p.isNone w:=by
 have h:∀d:Nat,(Op.equalIn (d+1) t (.map p) (.map Y)).run P w=.ok p.isNone w:=λd=>by cases p<;>simp[Op.equalIn,ef a]
 exact h 9999
theorem vc{x:qm}(d:o.op=.binOp op t x y t')(g:aW n o=W)(l:P.underlying t=O (.pointer e))(h:op=.eql∨op=.neq)(m:s.ev y=.val (.fl (.pointer Y)))
  (q:∀(w:zI)(I:aD)(be:Nat->V Nat)(v:Jz),b4 P w I be s.b s.g v (s.ev x)->∃p:V Mc,v=.pointer p/\p.isNone=b):dQ P E w0 I0 n o s (.val (.fl (.bool (if op=.eql then b else !b)))):=by
 intro a w I be i;obtain⟨p,hv,j⟩:=q w I be _ (aG g (x:=x) (by simp[d,Op.operands]) i);have c:=aG g (x:=y) (by simp[d,Op.operands]) i;rw[m]at c;have c:=cb c;have he:=va l p w;refine⟨.bool (if op=.eql then b else !b),?_,cq.fl _ rfl⟩;have k:∀z,(eqGuard op t x z (.pointer p) (.pointer Y)).run P w=.ok () w:=λz=>by rcases h with rfl|rfl<;>rfl
 rcases h with rfl|rfl
 .have f:(binOp .eql t (.pointer p) (.pointer Y)).run P w=.ok (.bool p.isNone) w:=by simp only[binOp,b9,he,cz,cF]
  simp only[execOp,d,hv,c,b9,k,cz,f,cF,ca,j]
 .have f:(binOp .neq t (.pointer p) (.pointer Y)).run P w=.ok (.bool (!p.isNone)) w:=by simp only[binOp,b9,he,cz,cF]
  simp only[execOp,d,hv,c,b9,k,cz,f,cF,reduceCtorEq,cG,j]
theorem Fj{k:JA}{x:qm}(d:o.op=.binOp op t x y t')(g:aW n o=W)(m:P.underlying t=O (.map k e))(h:op=.eql∨op=.neq)(q:s.ev y=.val (.fl (.map Y)))
  (r:∀(w:zI)(I:aD)(be:Nat->V Nat)(v:Jz),b4 P w I be s.b s.g v (s.ev x)->∃p:V Nat,v=.map p/\p.isNone=b):dQ P E w0 I0 n o s (.val (.fl (.bool (if op=.eql then b else !b)))):=by
 intro a w I be i;obtain⟨p,hv,j⟩:=r w I be _ (aG g (x:=x) (by simp[d,Op.operands]) i);have c:=aG g (x:=y) (by simp[d,Op.operands]) i;rw[q]at c;have c:=cb c;have he:=vb m p w;refine⟨.bool (if op=.eql then b else !b),?_,cq.fl _ rfl⟩;have l:∀z,(eqGuard op t x z (.map p) (.map Y)).run P w=.ok () w:=λz=>by rcases h with rfl|rfl<;>rfl
 rcases h with rfl|rfl
 .have f:(binOp .eql t (.map p) (.map Y)).run P w=.ok (.bool p.isNone) w:=by simp only[binOp,b9,he,cz,cF]
  simp only[execOp,d,hv,c,b9,l,cz,f,cF,ca,j]
 .have f:(binOp .neq t (.map p) (.map Y)).run P w=.ok (.bool (!p.isNone)) w:=by simp only[binOp,b9,he,cz,cF]
  simp only[execOp,d,hv,c,b9,l,cz,f,cF,reduceCtorEq,cG,j]
theorem gZ{x:qm}(b:o.op=.nilCheck x)(d:aW n o=W)(e:∀(w:zI)(I:aD)(be:Nat->V Nat)(v:Jz),b4 P w I be s.b s.g v (s.ev x)->∃p:Mc,v=.pointer (O p)):dQ P E w0 I0 n o s (s.ev x):=by intro a w I be f;have c:=aG d (x:=x) (by simp[b,Op.operands]) f;obtain⟨p,hv⟩:=e w I be _ c;refine⟨a.eval x,?_,c⟩;simp only[execOp,b,hv,cF]
theorem vd{w:zI}{I:aD}(h:cq w I v (.ptr i off)):∃p:Mc,v=.pointer (O p):=by obtain⟨B,_,e⟩:=lA h;exact⟨_,e⟩
theorem AH{w:zI}{I:aD}{cs:Z AV}(h:cq w I v (.ref cs)):∃p:Mc,v=.pointer (O p):=by
 cases h with
 |ref p cs a b c d=>exact ⟨p,rfl⟩
theorem ve{w:zI}{I:aD}(h:cq w I v (.mp i)):∃B,I.ar i=O B/\v=.map (O B):=by
 cases h with
 |mp i B h=>exact ⟨B,h,rfl⟩
theorem yf{x:qm}(d:o.op=.binOp op t x y t')(q:aW n o=W)(g:op=.eql∨op=.neq)(u:y=.const (.slice Y 0 0))(B:P.underlying t=O (.slice e))(C:bu (s.ev x)=O (.sl xs)){K:St->Prop}
  (D:∀b:tl,(b=W->xs=[])->K (s.put o.dst (.val (.fl (.bool (if op=.eql then b else !b)))))):dE P E w0 I0 n o s K:=by
 subst u;rintro a w ⟨I,be,i⟩ J;have j:=dN (aG q (x:=x) (by simp[d,Op.operands]) i) C;have sl:∃(A:V Mc)(m c:Nat),a.eval x=.slice A m c/\(A.isNone=W->xs=[]):=by
  generalize a.eval x=v at j;cases j with
  |eU c=>exact ⟨Y,0,c,rfl,λ_=>rfl⟩|sl p m cap sz xs L N Q R S T U X=>exact ⟨O p,m,cap,rfl,λh=>by cases h⟩
 obtain⟨A,m,c,hv,G⟩:=sl;have k:∀z,(eqGuard op t x z (.slice A m c) (.slice Y 0 0)).run P w=.ok () w:=λz=>by rcases g with rfl|rfl<;>rfl
 have H:(execOp a.eval o).run P w=.ok (.value (.bool (if op=.eql then A.isNone else !A.isNone))) w:=by
  have he:=C8 B A m c w;have l:a.eval (.const (.slice Y 0 0))=.slice Y 0 0:=rfl;rcases g with rfl|rfl
  .have f:(binOp .eql t (.slice A m c) (.slice Y 0 0)).run P w=.ok (.bool A.isNone) w:=by simp only[binOp,b9,he,cz,cF]
   simp only[execOp,d,hv,l,b9,k,cz,f,cF,ca]
  .have f:(binOp .neq t (.slice A m c) (.slice Y 0 0)).run P w=.ok (.bool (!A.isNone)) w:=by simp only[binOp,b9,he,cz,cF]
   simp only[execOp,d,hv,l,b9,k,cz,f,cF,reduceCtorEq,cG]
 exact fm H ⟨_,⟨I,be,i.put o.dst (r:=.val (.fl (.bool (if op=.eql then A.isNone else !A.isNone)))) (cq.fl _ rfl)⟩,D _ G⟩
end
end Go.Ev
namespace Go.Ev
open Go Go.MapKept
variable{t kt vt e:JA}{i:Nat}{v:AV}{d:TypeDesc}{es:Z (AV×AV)}{k:Jz}{p y:qm}{xs:Z AV}
section
variable{P:qK}{E:cm}{w0:zI}{I0:aD}{n:Nat}{o:JB}{s:St}{K:St->Prop}{a:Act}{w w':zI}{I:aD}{be:Nat->V Nat}
def St.qt (s:St) (i:Nat) (x:Ob):St:={s with a:=aa s.a i (O x),u:=aa s.u i W}
theorem wT(P:qK){v:Jz}{x:AV}(h:cq w I v x):v.cells.size=x.cells.length/\∀(j:Nat)(c:AV),x.cells[j]?=O c->cq w I (v.cells.getD j undef) c:=by have a:=kh (P:=P) (be:=λ_=>Y) (b:=λ_=>Y) (g:=λ_=>0) (r:=.val x) (cs:=x.cells.map .val) h rfl (λ_ _ _ _ _ h=>by cases h) (λ_ _ _ _ h=>by cases h);refine⟨by simpa using a.1,λj c d=>?_⟩;have:=a.2 j (.val c) (by simp[d]);exact this
theorem DK(P:qK){v:Jz}{x:AV}(h:cq w I v x)(a:x.wf):∀u∈v.cells.toList,u.oneCell'=W:=pF (P:=P) (be:=λ_=>Y) (b:=λ_=>Y) (g:=λ_=>0) (r:=.val x) h a (λ_ _ _ _ _ h=>by cases h) (λ_ _ _ _ h=>by cases h)
theorem AI(g:o.op=.alloc t)(h:E.dc=F)(k:s.u i=F){d:Z AV}(l:ZC P t d)
  (m:K ((s.qt i (.cells d)).put o.dst (.val (.ptr i 0)))):dE P E w0 I0 n o s K:=by
 rintro a w ⟨I,be,p⟩ A;obtain⟨B,b,hi,q,u,C,v,x⟩:=l;have y:(execOp a.eval o).run P w=.ok (.value (.pointer (O ⟨w.heap.size,0,Y⟩))) (w.alloc (.cells b.cells t)):=by simp[execOp,g,Instr.alloc,zeroValue,typeInfo,hi,q,newVar,newRow]
 have z:=p.PR (w':=w.alloc (.cells b.cells t)) h i k (.cells d) (ob:=.cells b.cells t) rfl rfl rfl rfl (λhw _=>
  ⟨b.cells,t,hw,v.symm,λj c e=>by
   have f:j<b.cells.size:=by have:=(aY.1 e).1;omega
   have hv:b.cells[j]?=O b.cells[j]:=by simp[f]
   have:=wN (w:=w.alloc (.cells b.cells t)) (I:=I.qt i w.heap.size) (qO.1 u _ (jP hv)) (x j _ c hv e);simpa[f]using this⟩)
 refine fm y ⟨_,⟨_,be,z.put o.dst (r:=.val (.ptr i 0)) ?_⟩,m⟩;exact cq.ptr i 0 w.heap.size (by simp[aD.qt])
theorem vf(h:o.op=.alloc t){d:Nat}(k:o.dst=O d){e:Z cy}{i:TypeInfo}{b:Jz}(hi:P.info? t=O i)(hz:i.zero=O b)(l:(b.cells.all λv=>v.oneCell')=W)(m:e.length=b.cells.size)
  (p:∀(j:Nat)(v:Jz)(r:cy),b.cells[j]?=O v->e[j]?=O r->r=ct v∨(v=.slice Y 0 0/\r=.val .gx)) (q:K (s.jn d e)):dE P E w0 I0 n o s K:=by
 rintro a w ⟨I,be,u⟩ A;have x:(execOp a.eval o).run P w=.ok (.value (.pointer (O ⟨w.heap.size,0,Y⟩))) (w.alloc (.cells b.cells t)):=by simp[execOp,h,Instr.alloc,zeroValue,typeInfo,hi,hz,newVar,newRow]
 refine fm x ⟨_,⟨I,aa be d (O w.heap.size),?_⟩,q⟩;rw[k];refine u.jn (w':=w.alloc (.cells b.cells t)) d rfl rfl rfl rfl _ m.symm λj c f=>?_;have y:j<b.cells.size:=by have:=(aY.1 f).1;omega
 have hv:b.cells[j]?=O b.cells[j]:=by simp[y]
 have g:=qO.1 l _ (jP hv);simp only[jl,hv,eP];rcases p j _ c hv f with rfl|⟨z,rfl⟩
 .refine uI ?_;generalize b.cells[j]=v at g;cases v<;>first|rfl|(simp[Value.oneCell']at g)
 .rw[z];exact cq.gx Y
theorem Mk(t:Nat)(g:s.r t=.val .gx)(h:gi P E w0 I0 n s a w):gi P E w0 I0 n {s with r:=aa s.r t (.bM [])} a w:=by
 obtain⟨I,be,h⟩:=h;refine⟨I,be,h.since,h.size,h.defers,λb e=>?_,h.bG,h.inj,h.bU,h.sF,h.bb⟩;by_cases f:b=t
 .subst f;have d:=h.cu b e;rw[g]at d;simp only[bK];generalize a.tmps.getD b undef=v at d;cases(show cq w I v .gx from d)with
  |gx A=>
   refine⟨?_,A,rfl⟩;cases A with
   |none=>exact .eU 0|some a=>exact .sl a 0 0 0 [] (λ_ _=>undef) rfl (a6 _) (dS _) (λi x h=>by simp at h) (λi j x c h=>by simp at h) (λi j x c h=>by simp at h) (λi j x c h=>by simp at h)
 .simpa only[aJ _ _ f]using h.cu b e
theorem sH{x:qm}(f:o.op=.call {callee:=.builtin .len,args:=#[x],argTypes:=#[t]})(g:aW n o=W)(h:P.underlying t=O (.slice e)){m:Nat}
  (d:(∃i sz,s.ev x=.val (.view i sz m))∨(s.ev x=.val .gx/\m=0)):dQ P E w0 I0 n o s (.val (.fl (.int .i64 m))):=by
 intro a w I be j;have b:=aG g (x:=x) (by simp[f,Op.operands,Call.operands]) j;refine⟨.int .i64 m,?_,.fl _ rfl⟩;obtain⟨cs,k⟩:=fL f a;rw[k];simp only[List.map_toArray,dy,qU];have hv:∃A c,a.eval x=.slice A m c:=by
  rcases d with⟨i,sz,d⟩|⟨d,rfl⟩
  .rw[d]at b;generalize a.eval x=v at b;cases(show cq w I v (.view i sz m)from b)with
   |view=>exact ⟨_,_,rfl⟩|kV=>exact ⟨_,_,rfl⟩
  .rw[d]at b;generalize a.eval x=v at b;cases(show cq w I v .gx from b)with
   |gx A=>exact ⟨_,_,rfl⟩
 obtain⟨A,c,hv⟩:=hv;simp[builtin,Builtin.len_,ef h,hv,goInt]
theorem Fk{x:qm}(b:o.op=.box t x)(f:aW n o=W)(g:E.dc=F)(h:s.u i=F)(k:bu (s.ev x)=O v)
  (l:K ((s.qt i (.cells v.cells)).put o.dst (.val (.ptr i 0)))):dE P E w0 I0 n o s K:=by
 rintro a w ⟨I,be,d⟩ z;have m:=dN (aG f (x:=x) (by simp[b,Op.operands]) d) k;have p:(execOp a.eval o).run P w=.ok (.value (.pointer (O ⟨w.heap.size,0,Y⟩))) (w.alloc (.cells (a.eval x).cells t)):=by simp[execOp,b,Instr.box,newVar,newRow]
 have e:=wT P m;have q:=d.PR (w':=w.alloc (.cells (a.eval x).cells t)) g i h (.cells v.cells) (ob:=.cells (a.eval x).cells t) rfl rfl rfl rfl (λhw u=>⟨(a.eval x).cells,t,hw,e.1,λj c y=>(e.2 j c y).mono u⟩);refine fm p ⟨_,⟨_,be,q.put o.dst (r:=.val (.ptr i 0)) ?_⟩,l⟩;exact cq.ptr i 0 w.heap.size (by simp[aD.qt])
theorem Fl(b:o.op=.makeMap t Y)(c:E.dc=F)(d:s.u i=F)
  (f:K ((s.qt i (.map [])).put o.dst (.val (.mp i)))):dE P E w0 I0 n o s K:=by
 rintro a w ⟨I,be,g⟩ m;have k:(execOp a.eval o).run P w=.ok (.value (.map (O w.heap.size))) {w with heap:=w.heap.push (.map #[] 0)}:=by simp[execOp,b,Instr.makeMap,newObj,Sem.run]
 have l:=g.PR (w':={w with heap:=w.heap.push (.map #[] 0)}) c i d (.map []) (ob:=.map #[] 0) rfl rfl rfl rfl (λhw p=>⟨#[],0,hw,rfl,λ_ h=>(by cases h),λj x h=>by simp at h,λj e h=>by simp at h⟩);refine fm k ⟨_,⟨_,be,l.put o.dst (r:=.val (.mp i)) ?_⟩,f⟩;exact cq.mp i w.heap.size (by simp[aD.qt])
theorem vg{B:Nat}{cur a:Array Jz}(b:w.heap[B]?=O (.cells cur t (0,0)))(c:a.size=cur.size):∀B',gh w (w.setRow B a) B':=by refine rW (λk d _=>?_) b (oB w B cur a t (0,0) b) c;exact na w B k a d
theorem C9{x:qm}(f:o.op=.store t p x)(h:aW n o=W)(D:o.dst=Y){off:Nat}(H:E.ro i=Y){cs:Z AV}(J:s.ev p=.val (.ptr i off))(l:s.a i=O (.cells cs))(L:bu (s.ev x)=O v)(N:v.wf)(h0:0<P.cellsOf t)
  (Q:v.cells.length=P.cellsOf t) (m:off+v.cells.length<=cs.length) (R:K {s with a:=aa s.a i (O (.cells (bd cs off v.cells)))}):dE P E w0 I0 n o s K:=by
 rintro a w ⟨I,be,d⟩ d0;have q:=aG h (x:=p) (by simp[f,Op.operands]) d;have r:=dN (aG h (x:=x) (by simp[f,Op.operands]) d) L;rw[J]at q;obtain⟨B,u,e1⟩:=lA (show cq w I (a.eval p) (.ptr i off)from q);obtain⟨B',e,cur,T,hw,S,y⟩:=d.bb.hC i _ l;rw[u]at e;injection e with e;subst e;obtain⟨z,U⟩:=wT P r;have X:=DK P r N;have g:off+(a.eval x).cells.size<=cur.size:=M;have a0:=iU (P:=P) (t:=t) hw (by rw[z,Q]) h0 X g;have A:(bd cur.toList off (a.eval x).cells.toList).toArray.size=cur.size:=by rw[oz,bI (by simpa using g)];simp
 refine jH (w':=w.setRow B (bd cur.toList off (a.eval x).cells.toList).toArray) ?_ ⟨_,⟨I,be,?_⟩,R⟩
 .simp[execOp,f,e1,Instr.storeAt,Instr.sureAddr,a0]
 .rw[D];refine d.Kh i H (.cells (bd cs off v.cells)) B (by simp[l]) u rfl rfl rfl (setRow_size w B _) (λk b0=>na w B k _ b0) (vg hw A) (λG=>⟨_,T,oB w B cur _ T (0,0) hw,by rw[A,bI m,S],λj c b=>?_⟩);refine cq.mono G ?_;rw[cD m]at b;rw[fo (by simpa using g)];have c0:(a.eval x).cells.toList.length=v.cells.length:=by simpa using z
  rw[c0];by_cases q1:j<off
  .rw[aj q1]at b⊢;exact y j c b
  .rw[ai q1]at b⊢;by_cases C:j<off+v.cells.length
   .rw[aj C]at b⊢;have:=U _ c b;simpa[qo]using this
   .rw[ai C]at b⊢;exact y j c b
theorem wU{x:qm}(u:o.op=.store t p x)(N:aW n o=W)(j0:o.dst=Y){j k:Nat}(l0:E.ro i=Y){y:AV}(m0:s.ev p=.val (.ptr i (j*P.cellsOf e+k)))(Q:s.a i=O (.bi e xs))
  (n0:bu (s.ev x)=O v) (z:v.wf) (h0:0<P.cellsOf t) (o0:v.cells.length=P.cellsOf t) (h:xs[j]?=O y) (l:k+v.cells.length<=y.cells.length) (R:y.isAgg=W∨(k=0/\v.isAgg=F))
  (p0:K {s with a:=aa s.a i (O (.bi e (xs.set j (fZ y k v.cells))))}):dE P E w0 I0 n o s K:=by
 rintro a w ⟨I,be,m⟩ G0;have S:=aG N (x:=p) (by simp[u,Op.operands]) m;have T:=dN (aG N (x:=x) (by simp[u,Op.operands]) m) n0;rw[m0]at S;obtain⟨B,U,e1⟩:=lA (show cq w I (a.eval p) (.ptr i (j*P.cellsOf e+k))from S);obtain⟨X,q0⟩:=wT P T;have r0:=DK P T z;obtain⟨B',q,s0,t0,r,cur,cap,hw,u0,v0,x0,A⟩:=m.bb.hC i _ Q;rw[U]at q;injection q with q;subst q;have a0:j<xs.length:=(aY.1 h).1;have y0:=(r j y h).1;have A0:(j+1)*P.cellsOf e<=cap*P.cellsOf e:=fR _ M;rw[eO,jG]at A0;have C:j*P.cellsOf e+k+(a.eval x).cells.size<=cur.size:=M;have B0:=iU (P:=P) (t:=t) hw (by rw[X,o0]) h0 r0 C;have b0:(bd cur.toList (j*P.cellsOf e+k) (a.eval x).cells.toList).toArray.size=cur.size:=by rw[oz,bI (by simpa using C)];simp
 have c0:(xs.set j (fZ y k v.cells)).length=xs.length:=aE;have D:(fZ y k v.cells).cells=bd y.cells k v.cells/\(fZ y k v.cells).wf:=by
  cases d0:y with
  |agg cs=>
   have H:=(r j y h).2;rw[d0]at H l;refine⟨rfl,λc f=>?_⟩;simp only[fZ,AV.cells,bd,dR]at f;rcases f with(f|f)|f
   .exact H c (s7 f)
   .exact z c f
   .exact H c (zT f)
  |_=>
   rw[d0]at R l;obtain⟨rfl,e0⟩:=R.resolve_left (by simp[AV.isAgg]);have:v.cells=[v]:=by cases v<;>first|rfl|(simp[AV.isAgg]at e0)
   rw[this];refine⟨?_,?_⟩
   .cases v<;>first|rfl|(simp[AV.isAgg]at e0)
   .simpa[fZ]using z
 refine jH (w':=w.setRow B (bd cur.toList (j*P.cellsOf e+k) (a.eval x).cells.toList).toArray) ?_ ⟨_,⟨I,be,?_⟩,p0⟩
 .simp[execOp,u,e1,Instr.storeAt,Instr.sureAddr,B0]
 .rw[j0];refine m.Kh i l0 (.bi e (xs.set j (fZ y k v.cells))) B (by simp[Q]) U rfl rfl rfl (setRow_size w B _) (λk C0=>na w B k _ C0) (vg hw b0) (λG=>⟨s0,by rw[c0];exact t0,λi2 f0 b=>?_,?_⟩)
  .rw[qp]at b;split at b
   .rename_i d;subst d;try rw[aj a0]at b
    injection b with b;subst b;refine⟨?_,D.2⟩;rw[D.1,bI l,y0]
   .exact r _ _ b
  .refine ⟨_,cap,oB w B cur _ e (0,0) hw,by rw[b0,u0],v0,by rw[c0];exact x0,λi2 g f0 c b d=>?_⟩;refine cq.mono (w:=w) (I:=I) G ?_;rw[fo (by simpa using C)];have D0:(a.eval x).cells.toList.length=v.cells.length:=by simpa using X
   rw[D0];rw[qp]at b;split at b
   .rename_i J;subst J;try rw[aj a0]at b
    injection b with b;subst b;rw[D.1,cD l]at d;by_cases q1:g<k
    .rw[aj M];rw[aj q1]at d;exact A j g y c h d
    .rw[ai q1]at d;rw[ai M];by_cases g0:g<k+v.cells.length
     .rw[aj g0]at d;rw[aj M];have:=q0 _ c d;have E0:j*P.cellsOf e+g-(j*P.cellsOf e+k)=g-k:=M;rw[E0];simpa[qo]using this
     .rw[ai g0]at d;rw[ai M];exact A j g y c h d
   .rename_i J;have H0:g<P.cellsOf e:=by rw[<-(r _ _ b).1];exact (aY.1 d).1
    have i0:=A i2 g f0 c b d;rcases Nat.lt_or_gt_of_ne J with L|L
    .have:(j+1)*P.cellsOf e<=i2*P.cellsOf e:=fR _ L;rw[eO,jG]at this;rw[ai M,ai M];exact i0
    .have:(i2+1)*P.cellsOf e<=j*P.cellsOf e:=fR _ L;rw[eO,jG]at this;rw[aj M];exact i0
def vh(d:TypeDesc)(k:Jz):Z (AV×AV)->Nat->V (V (Nat×AV))
 |[],_=>O Y|(.fl k',v)::es,i=>match Instr.sameNow d k k' with
  |some W=>O (O (i,v))|some F=>vh d k es (i+1)
  |none=>Y
 |_::_,_=>Y
theorem nW{d:TypeDesc}{k:Jz}:∀{es:Z (AV×AV)}{c:Z MapEntry}{i:Nat}{r:V (Nat×AV)},c.length=es.length->(∀(j:Nat)(e:AV×AV),es[j]?=O e->∃x,c[j]?=O x/\cq w I x.key e.1/\cq w I x.val e.2)->vh d k es i=O r->
  match r with
  |none=>Instr.findNow d k c i=O Y|some (j,av)=>i<=j/\∃x,c[j-i]?=O x/\Instr.findNow d k c i=O (O (j,x.val))/\cq w I x.val av/\(es[j-i]?).map (·.2)=O av
 |[],[],i,r,f,h,a=>by simp only[vh,ax]at a;subst a;rfl|[],_::_,i,r,f,h,a=>by simp at f
 |e::es,[],i,r,f,h,a=>by simp at f|(k0,v0)::es,x::c,i,r,f,h,a=>by
  obtain⟨z,h1,m,n⟩:=h 0 (k0,v0) rfl;simp only[gT,ax]at h1;subst h1;have o:∀(j:Nat)(e:AV×AV),es[j]?=O e->∃x,c[j]?=O x/\cq w I x.key e.1/\cq w I x.val e.2:=λj e q=>by obtain⟨y,q1,g⟩:=h (j+1) e (by simpa using q);exact⟨y,by simpa using q1,g⟩
  cases k0 with
  |fl k'=>
   have s:=cb m;simp only[vh]at a;simp only[Instr.findNow];rw[s];cases l:Instr.sameNow d k k' with
   |none=>rw[l]at a;cases a
   |some b=>
    rw[l]at a;cases b with
    |true=>simp only[ax]at a;subst a;exact⟨a6 _,x,aE,rfl,n,aE⟩|false=>
     have:=nW (i:=i+1) (by simpa using f) o a;cases r with
     |none=>exact this|some p=>obtain⟨j,av⟩:=p;obtain⟨q1,y,g,t,u,v⟩:=this;have e:j-i=(j-(i+1))+1:=M;exact⟨M,y,by rw[e];simpa using g,t,u,by rw[e];simpa using v⟩
  |_=>simp[vh]at a
theorem Kl{z:Jz}(h:(z.cells.all λv=>v.oneCell')=W):cq w I z (nf z):=by
 cases z with
 |agg cs=>refine .agg cs _ aE λj c a=>?_;have:=PF (w:=w) (I:=I) h j (c:=c) (by simpa[nf,AV.cells]using a);simpa[Value.cells]using this|_=>
  simp only[Value.cells,qO]at h;exact lv (h _ aE)
theorem Fm{x:qm}{f:tl}(m:o.op=.lookup t x y f)(N:aW n o=W)(Q:P.underlying t=O (.map kt vt))(C:P.underlying kt=O d)
  (l:(∃i c,s.ev x=.val (.mp i)/\s.a i=O (.map es c))∨(s.ev x=.val (.fl (.map Y))/\es=[])) (b0:s.ev y=.val (.fl k)) (c0:IsKey d k) {r:V (Nat×AV)} (d0:vh d k es 0=O r) {z:AV} (e0:ng P vt=O z):
  dQ P E w0 I0 n o s (if f then .fK [.val ((r.map (·.2)).getD z),.val (.fl (.bool r.isSome))]else .val ((r.map (·.2)).getD z)):=by
 intro a w I be D;have u:=aG N (x:=x) (by simp[m,Op.operands]) D;have R:=aG N (x:=y) (by simp[m,Op.operands]) D;rw[b0]at R;have G:=cb R;obtain⟨x0,H,hi,f0,g0,y0,rfl⟩:=q9 e0;have hzero:(zeroValue vt).run P w=.ok H w:=by simp[zeroValue,typeInfo,hi,f0]
 have h0:∃h:Array MapEntry,h.size=es.length/\(∀(j:Nat)(e:AV×AV),es[j]?=O e->∃x,h.toList[j]?=O x/\cq w I x.key e.1/\cq w I x.val e.2)/\
   ((a.eval x=.map Y/\h=#[])∨∃B clock,a.eval x=.map (O B)/\(getObj B).run P w=.ok (.map h clock) w):=by
  rcases l with⟨i,c,l,i0⟩|⟨l,rfl⟩
  .rw[l]at u;obtain⟨B,j0,e1⟩:=ve (show cq w I (a.eval x) (.mp i)from u);obtain⟨B',A,h,clock,q1,J,A0,S,l0⟩:=D.bb.hC i _ i0;rw[j0]at A;injection A with A;subst A;refine⟨h,J,λj e K=>?_,.inr ⟨B,clock,e1,by simp[getObj,Sem.run,q1]⟩⟩;obtain⟨x,m0,n0⟩:=l0 j e K;exact⟨x,by simpa using m0,n0⟩
  .rw[l]at u;exact⟨#[],rfl,λj e K=>by simp at K,.inl ⟨cb u,rfl⟩⟩
 obtain⟨h,o0,p0,q0⟩:=h0;have T:=nW (i:=0) (by simpa using o0) p0 d0;have r0:∃v b,(Instr.lookup t (a.eval x) (a.eval y) f).run P w=.ok (if f then .tuple #[v,.bool b]else v) w/\cq w I v ((r.map (·.2)).getD (nf H))/\b=r.isSome:=by
  have U:∀b,(Instr.checkKey b 10000 kt (a.eval y)).run P w=.ok () w:=λb=>by rw[G];exact run_checkKey C c0 b 9999
  have s0:(Instr.lookup t (a.eval x) (a.eval y) f).run P w=((Instr.findKey kt (a.eval y) h.toList).run P w).andThen λr w'=>Sem.run P (do
    let(v,t0)<-match r with
     |some (_,v)=>pure (v,W)|none=>pure (<-zeroValue vt,F)
    pure (if f then .tuple #[v,.bool t0]else v)) w':=by
   rcases q0 with⟨e1,rfl⟩|⟨B,clock,e1,u0⟩
   .unfold Instr.lookup;simp only[b9,ef Q,cz,e1,cF,U];rfl
   .unfold Instr.lookup;simp only[b9,ef Q,cz,e1,cF,U,u0];rfl
  rw[s0];cases r with
  |none=>have L:=run_findKey (P:=P) (w:=w) C (k:=k) T;rw[G,L];simp only[cz,b9,hzero,cF];exact⟨H,F,by cases f<;>rfl,Kl g0,rfl⟩
  |some p=>obtain⟨j,av⟩:=p;obtain⟨_,v0,q1,J,S,_⟩:=T;have L:=run_findKey (P:=P) (w:=w) C (k:=k) J;rw[G,L];simp only[cz,cF];exact⟨v0.val,W,by cases f<;>rfl,S,rfl⟩
 obtain⟨v,b,X,a0,rfl⟩:=r0;cases f with
 |true=>
  refine⟨.tuple #[v,.bool r.isSome],?_,#[v,.bool r.isSome],rfl,rfl,λj q g=>?_⟩
  .simp only[execOp,m,b9,X,cz,cF,ca]
  .match j,g with
   |0,g=>simp at g;subst g;exact a0|1,g=>simp at g;subst g;exact cq.fl _ rfl
   |j+2,g=>simp at g
 |false=>refine⟨v,?_,a0⟩;simp only[execOp,m,b9,X,cz,cF,iA,cG]
theorem Fo{x:qm}(f:o.op=.call {callee:=.builtin .len,args:=#[x],argTypes:=#[t]})(j:aW n o=W)(g:P.underlying t=O (.map kt vt))
  (b:(∃i c,s.ev x=.val (.mp i)/\s.a i=O (.map es c))∨(s.ev x=.val (.fl (.map Y))/\es=[])):dQ P E w0 I0 n o s (.val (.fl (.int .i64 es.length))):=by
 intro a w I be h;have d:=aG j (x:=x) (by simp[f,Op.operands,Call.operands]) h;refine⟨.int .i64 es.length,?_,.fl _ rfl⟩;obtain⟨cs,k⟩:=fL f a;rw[k];simp only[List.map_toArray,dy,qU];rcases b with⟨i,c,b,l⟩|⟨b,rfl⟩
 .rw[b]at d;obtain⟨B,m,e1⟩:=ve (show cq w I (a.eval x) (.mp i)from d);obtain⟨B',e,p,clock,q1,q,u,v,y⟩:=h.bb.hC i _ l;rw[m]at e;injection e with e;subst e;have r:(getObj B).run P w=.ok (.map p clock) w:=by simp[getObj,Sem.run,q1]
  simp[builtin,Builtin.len_,ef g,e1,goInt,r,q]
 .rw[b]at d;have e1:=cb d;simp[builtin,Builtin.len_,ef g,e1,goInt]
theorem Fq{k':Jz}(a:IsKey d k)(h:Instr.sameNow d k k'=O W):Instr.sameBits 10000 k' k=W:=by cases d<;>cases k<;>cases k'<;>simp_all[IsKey,Instr.sameNow,Instr.sameBits,bytes_beq]
def TA(d:TypeDesc)(k:Jz)(v:AV)(es:Z (AV×AV)):V (Z (AV×AV)):=
 match vh d k es 0 with
 |some (O (j,_))=>O (es.set j (.fl k,v))|some Y=>O (es++[(.fl k,v)])
 |none=>Y
theorem vi{d:TypeDesc}{k:Jz}:∀{l:Z MapEntry}{i j:Nat}{v:Jz},Instr.findNow d k l i=O (O (j,v))->i<=j/\∃x,l[j-i]?=O x/\Instr.sameNow d k x.key=O W
 |[],i,j,v,h=>by simp[Instr.findNow]at h|e::es,i,j,v,h=>by
  simp only[Instr.findNow]at h;cases a:Instr.sameNow d k e.key with
  |none=>rw[a]at h;cases h
  |some b=>
   rw[a]at h;cases b with
   |true=>simp only[ax,bc]at h;obtain⟨rfl,_⟩:=h;exact⟨a6 _,e,aE,a⟩|false=>obtain⟨q1,x,c,f⟩:=vi (i:=i+1) h;have g:j-i=(j-(i+1))+1:=M;exact⟨M,x,by rw[g];simpa using c,f⟩
theorem y8{x z:qm}(u:o.op=.mapUpdate t x y z∨o.op=.insert t x y z)(e0:aW n o=W)(P0:o.dst=Y)(Q0:P.underlying t=O (.map kt vt))(f0:P.underlying kt=O d)(R0:E.ro i=Y){U:Z (AV×AV)}{c:V (Z Nat×Nat)}
  (S0:s.ev x=.val (.mp i)) (s0:s.a i=O (.map es c)) (f:s.ev y=.val (.fl k)) (X:IsKey d k) (t0:Tk k) (T0:bu (s.ev z)=O v) (p:TA d k v es=O U)
  (U0:K {s with a:=aa s.a i (O (.map U))}):dE P E w0 I0 n o s K:=by
 rintro a w ⟨I,be,Q⟩ X0;have g0:∀q,q=x∨q=y∨q=z->q∈o.op.operands:=λq a1=>by rcases u with u|u<;>rcases a1 with rfl|rfl|rfl<;>simp[u,Op.operands]
 have u0:=aG e0 (x:=x) (g0 x (.inl rfl)) Q;have v0:=aG e0 (x:=y) (g0 y (.inr (.inl rfl))) Q;have a0:=dN (aG e0 (x:=z) (g0 z (.inr (.inr rfl))) Q) T0;rw[S0]at u0;rw[f]at v0;have i0:=cb v0;obtain⟨B,x0,e1⟩:=ve (show cq w I (a.eval x) (.mp i)from u0);obtain⟨B',b0,g,clock,q1,R,t1,j0,l0⟩:=Q.bb.hC i _ s0;rw[x0]at b0;injection b0 with b0;subst b0;have b1:(getObj B).run P w=.ok (.map g clock) w:=by simp[getObj,Sem.run,q1]
 have c1:(Instr.checkKey F 10000 kt (a.eval y)).run P w=.ok () w:=by rw[i0];exact run_checkKey f0 X F 9999
 have A0:∀m0,(setObj B m0).run P w=.ok () {w with heap:=w.heap.setIfInBounds B m0}:=λm0=>by simp[setObj,Sem.run,q1]
 have B0:∀(j:Nat)(e:AV×AV),es[j]?=O e->∃x,g.toList[j]?=O x/\cq w I x.key e.1/\cq w I x.val e.2:=λj e l=>by obtain⟨x,a0,d1⟩:=l0 j e l;exact⟨x,by simpa using a0,d1⟩
 have f1:B<w.heap.size:=(h4.1 q1).1;have C0:∀(C:Array MapEntry)(D:Nat),(Instr.mapUpdate t (a.eval x) (a.eval y) (a.eval z)).run P w=.ok () {w with heap:=w.heap.setIfInBounds B (.map C D)}->
   (∀{w':zI},dD w w' I I->w'.heap[B]?=O (.map C D)->oP P w' I B (.map U))->o.wp P a w (λa' w'=>∃s',gi P E w0 I0 n s' a' w'/\K s') X0:=λC D i1 j1=>by
  have k1:(w.heap.setIfInBounds B (.map C D))[B]?=O (.map C D):=by simp[f1]
  have D0:∀k,k≠B->(w.heap.setIfInBounds B (.map C D))[k]?=w.heap[k]?:=λk X=>by simp[dz X]
  refine jH (w':={w with heap:=w.heap.setIfInBounds B (.map C D)}) ?_ ⟨_,⟨I,be,?_⟩,U0⟩
  .rcases u with u|u<;>simp[execOp,u,i1]
  .rw[P0];refine Q.Kh i R0 (.map U) B (by simp[s0]) x0 rfl rfl rfl aE D0 (λB' cur t u1 n0=>?_) (λG=>j1 G k1);by_cases E0:B'=B
   .subst E0;rw[q1]at n0;cases n0
   .exact ⟨cur,by rw[<-n0];exact D0 B' E0,rfl⟩
 have G0:(Instr.mapUpdate t (a.eval x) (a.eval y) (a.eval z)).run P w=((Instr.findKey kt (a.eval y) g.toList).run P w).andThen λr w'=>Sem.run P (do
   match r with
   |some (i,_)=>do
    let key<-Instr.keyThatStays (((g[i]?).map (·.key)).getD (a.eval y)) (a.eval y)
    setObj B (.map (g.modify i λe=>{e with key,val:=a.eval z}) clock)
   |none=>setObj B (.map (g.push {key:=a.eval y,val:=a.eval z,born:=clock}) (clock+1))) w':=by
  unfold Instr.mapUpdate;simp only[b9,ef Q0,cz,e1,b1,c1];rfl
 unfold TA at p;split at p
 .rename_i j v1 o0;injection p with p;subst p;obtain⟨_,H0,c0,J0,w1,l1⟩:=nW (i:=0) (w:=w) (I:=I) (by simpa using R) B0 o0;simp only[oA]at c0 l1;have p0:=run_findKey (P:=P) (w:=w) f0 (k:=k) J0;obtain⟨_,x1,S,m1⟩:=vi J0;simp only[oA]at S;rw[c0]at S;injection S with S;subst S;have K0:j<g.size:=by have:=(aY.1 c0).1;simpa using this
  have L0:g[j]?=O H0:=by simpa using c0
  refine C0 (g.modify j λe=>{e with key:=k,val:=a.eval z}) clock ?_ λ{w'} G q0=>?_
  .rw[G0,i0,p0];simp only[cz,b9,L0,cj,eP];have:(Instr.keyThatStays H0.key k).run P w=.ok k w:=by unfold Instr.keyThatStays;rw[aj (Fq X m1)];rfl
   rw[this];simp only[cz,A0]
  .refine ⟨_,clock,q0,by simp[R],(λ_ h=>by cases h),λb y f=>?_,λb e l=>?_⟩
   .have L:∀(b:Nat)(y:MapEntry),(g.modify j λe=>{e with key:=k,val:=a.eval z})[b]?=O y->∃m,g[b]?=O m/\y.born=m.born:=λb y f=>by
     rw[G9]at f;split at f
     .obtain ⟨m,h0,rfl⟩:=ck.1 f;exact⟨m,h0,rfl⟩
     .exact ⟨y,f,rfl⟩
    obtain⟨m,g1,g2⟩:=L b y f;obtain⟨N,r0⟩:=j0 b m g1;refine⟨by rw[g2];exact N,λA H T d0=>?_⟩;obtain⟨n1,g5,J⟩:=L A H T;exact r0 A n1 g5 (by rw[<-J,d0,g2])
   .rw[qp]at l;rw[G9];by_cases N0:j=b
    .subst N0;have o1:j<es.length:=M;simp only[ca,o1,ax]at l;subst l;simp only[ca,L0,cj];exact⟨_,rfl,cq.fl k t0,a0.mono G⟩
    .simp only[N0,cG]at l⊢;obtain⟨m,g1,g2,N⟩:=l0 b e l;exact⟨m,g1,g2.mono G,N.mono G⟩
 .rename_i o0;injection p with p;subst p;have p1:=nW (i:=0) (w:=w) (I:=I) (by simpa using R) B0 o0;have p0:=run_findKey (P:=P) (w:=w) f0 (k:=k) p1;refine C0 (g.push {key:=k,val:=a.eval z,born:=clock}) (clock+1) ?_ λ{w'} G q0=>?_
  .rw[G0,i0,p0];simp only[cz,A0]
  .have L:∀(b:Nat)(y:MapEntry),(g.push {key:=k,val:=a.eval z,born:=clock})[b]?=O y->(b<g.size/\g[b]?=O y)∨(b=g.size/\y.born=clock):=λb y f=>by
    rw[Ha]at f;split at f
    .injection f with f;subst f;exact .inr ⟨by assumption,rfl⟩
    .exact .inl ⟨(h4.1 f).1,f⟩
   refine⟨_,clock+1,q0,by simp[R],(λ_ h=>by cases h),λb y f=>?_,λb e l=>?_⟩
   .rcases L b y f with⟨g1,g2⟩|⟨g1,g2⟩
    .obtain ⟨N,r0⟩:=j0 b y g2;refine⟨M,λA H T d0=>?_⟩;rcases L A H T with⟨g5,J⟩|⟨g5,J⟩
     .exact r0 A H J d0
     .omega
    .refine ⟨M,λA H T d0=>?_⟩;rcases L A H T with⟨g5,J⟩|⟨g5,J⟩
     .have:=(j0 A H J).1;omega
     .omega
   .by_cases K0:b<es.length
    .rw[fx K0]at l;obtain⟨m,g1,g2,N⟩:=l0 b e l;refine⟨m,?_,g2.mono G,N.mono G⟩;rw[Ha,ai M];exact g1
    .rw[im M]at l;have s1:b=es.length:=by have:=(aY.1 l).1;simp at this;omega
     subst s1;simp at l;subst l;refine⟨{key:=k,val:=a.eval z,born:=clock},?_,cq.fl k t0,a0.mono G⟩;rw[Ha,aj R.symm]
 .cases p
theorem HB(t:Nat)(d:Nat){e len:Nat}(u:E.ro i=Y)(x:s.r t=.val (.view i (P.cellsOf e) len))(m:s.a i=O (.bi e xs))(H:len<=xs.length)(h0:0<len∨2<=i%1000)(h:gi P E w0 I0 n s a w):
  gi P E w0 I0 n {s with r:=aa s.r t (.view d (s.g d+1) 0 len),b:=aa s.b d (O (.bi e xs)),g:=aa s.g d (s.g d+1),a:=aa s.a i Y} a w:=by
 obtain⟨I,be,h⟩:=h;obtain⟨B,o,J,K,L,y⟩:=h.bb.hC i _ m;have c:=h.Tz i d u m o;refine⟨I,aa be d (O B),c.since,c.size,c.defers,λk p=>?_,c.bG,c.inj,c.bU,c.sF,c.bb⟩;by_cases q:k=t
 .subst q;have j:=h.cu k p;rw[x]at j;simp only[bK];refine⟨by rw[bK];exact a6 _,λ_=>?_⟩;unfold eg;simp only[bK];generalize a.tmps.getD k undef=v at j;cases(show cq w I v (.view i (P.cellsOf e) len)from j)with
  |view _ _ _ B' cap N cur A l hw z Q C=>rw[o]at l;injection l with l;subst l;obtain⟨R,S,f,T,U,X,a0⟩:=y;rw[hw]at f;injection f with f;injection f with f D;subst f D;exact⟨M,cur,cap,A,hw,z,aE,λG=>by simpa using C G⟩|kV _ _ _ _ _ hi=>omega
 .have j:=c.cu k p;simpa only[aJ _ _ q]using j
end
end Go.Ev
namespace Go.Ev
open Go
variable{e t:JA}{xs ys:Z AV}{f:JC}{v:Jz}{i len N:Nat}{y:qm}{k:Pv}{m:Int}{c:AV}{E':cm}{base Ml:Nat->Prop}{args:Array qm}{argTypes:Array JA}{out:ni}{X:AV->St->Prop}
def sI(d gg:Nat)(vs:Z AV):cy->cy
 |.dT d' g' sz i k=>if d'=d/\g'=gg then .val (.ref (vs.drop (i*sz+k)))else .dT d' g' sz i k|r=>r
def St.gv (s:St) (d:Nat) (vs:Z AV):St:={s with r:=λt=>sI d (s.g d) vs (s.r t),b:=aa s.b d Y}
section
variable{P:qK}{E:cm}{w0:zI}{I0:aD}{n:Nat}{s:St}{a:Act}{w:zI}{I I':aD}{be:Nat->V Nat}
theorem Da(d:Nat){cs:Z cy}{vs:Z AV}(l:s.b d=O (.cells cs))(hv:cZ cs=O vs)(h:gi P E w0 I0 n s a w):gi P E w0 I0 n (s.gv d vs) a w:=by
 obtain⟨I,be,h⟩:=h;have b:=h.Hz d;refine⟨_,be,b.since,b.size,b.defers,λt q=>?_,b.bG,b.inj,b.bU,b.sF,b.bb⟩;have f:=b.cu t q;have h0:=h.cu t q;simp only[St.gv];generalize a.tmps.getD t undef=v at h0 f;cases m:s.r t with
 |dT d' g' sz i k=>
  by_cases r:d'=d/\g'=s.g d
  .obtain ⟨rfl,rfl⟩:=r;rw[m]at h0;simp only[sI,and_self,ca];obtain⟨B,u,rfl⟩:=h0.2 rfl (by simp[l]);obtain⟨B',cur,A,g,hw,y,z⟩:=h.bG d' _ l;rw[u]at g;injection g with g;subst g;have o:=q4 hv;refine cq.ref _ _ (λj=>cur.getD (i*sz+k+j) undef) (λj c e=>?_) (λj c e=>?_) (λj c e=>?_)
   .rw[kT]at e;have p:i*sz+k+j<cur.size:=by have:=(aY.1 e).1;rw[o.1,<-y]at this;exact this
    rw[dW,pB hw];simp[p]
   .right;exact⟨B,by simp[l],u,by rw[dW]⟩
   .rw[kT]at e;have p:i*sz+k+j<cs.length:=by have:=(aY.1 e).1;rwa[o.1]at this
    have x:cs[i*sz+k+j]?=O cs[i*sz+k+j]:=by simp[p]
    exact(dN (z _ _ x) (o.2 _ _ _ x e)).mono (.plus _ _ _)
  .rw[m]at f;simp only[sI,r,cG];exact f
 |_=>rw[m]at f;exact f
end
def wV(P:qK)(s:St):cy->V AV
 |.view d gg off len=>if gg=s.g d then(match s.b d with
  |some (.bi _ xs)=>O (.sl ((xs.drop off).take len))|_=>Y)else Y
 |.val (.view i sz len)=>match s.a i with
  |some (.bi e xs)=>if sz=P.cellsOf e/\len<=xs.length then O (.sl (xs.take len))else Y|_=>Y
 |.val .gx=>O (.sl [])|r=>bu r
def looks(P:qK)(s:St)(ps:Z qm)(xs:Z AV):Prop:=xs.length=ps.length/\∀(j:Nat)(p:qm)(x:AV),ps[j]?=O p->xs[j]?=O x->wV P s (s.ev p)=O x∨bu (s.ev p)=O x
def Fs:RV->Prop
 |.v x=>∃v,x=.fl v|.bU _ xs=>∀x∈xs,∀c∈x.cells,∃v,c=.fl v
section
variable{P:qK}{E:cm}{w0:zI}{I0:aD}{n:Nat}{o:JB}{s:St}{K:St->Prop}{a:Act}{w w':zI}{I I':aD}{be:Nat->V Nat}
theorem HC{I':aD}(h:cq w I v c)(a:∃u,c=.fl u):cq w I' v c:=by
 obtain⟨u,rfl⟩:=a;cases h with
 |fl v hv=>exact .fl v hv
theorem AJ{bo:V Nat}{r:RV}(a:Fs r)(H:∀B,¬E'.cB w B∨E.cB w B)(g:∀B,base B->Ml B)(k:∀p,I p->I' p)(h:ml P E' w I' base bo v r)(l:E'.cB=E.cB):ml P E w I Ml bo v r:=by
 cases r with
 |v x=>exact HC h a|bU e xs=>
  obtain⟨m,n,o,b⟩:=h;refine⟨m,n,o,?_⟩;cases bo with
  |none=>exact b|some B=>obtain⟨q1,q,s,t,cur,cap,u,y,z,A,C,D⟩:=b;refine⟨g B q1,q,λp G=>s p (k p G),by rw[<-l];exact t,cur,cap,u,y,z,A,C,λi j x c d f=>?_⟩;exact HC (D i j x c d f) (a x (bF d) c (bF f))
theorem HD{bo:Nat->V Nat}(c:E'.cB=E.cB)(g:∀B,base B->Ml B)(i:∀p,I p->I' p):∀{rs:Z RV},(∀r∈rs,Fs r)->nj P E' w I' base bo v rs->nj P E w I Ml bo v rs
 |[r],d,h=>AJ (d r aE) (λB=>by rw[c];exact (Classical.em _).symm.imp id id) g i h c|[],d,⟨vs,h1,f,k⟩=>⟨vs,h1,f,λj r e=>by simp at e⟩
 |a::b::rs,d,⟨vs,h1,f,k⟩=>⟨vs,h1,f,λj r e=>AJ (d r (bF e)) (λB=>by rw[c];exact (Classical.em _).symm.imp id id) g i (k j r e) c⟩
theorem DL(D:aL P E w0 I0 n s a w I be)(h:cq w I v (.view i (P.cellsOf e) len))(G:s.a i=O (.bi e xs))(L:len<=xs.length){k:aD}(N:dD w w I k)(Q:∀B,I.ar i=O B->∀p:Mc,p.block=B->k p):cq w k v (.sl (xs.take len)):=by
 by_cases h0:len=0
 .subst h0;have nil:∀A cap,cap<=maxLen->cq w k (.slice A 0 cap) (.sl []):=λA cap t=>by
   cases A with
   |none=>exact .eU cap|some a=>exact .sl a 0 cap 0 [] (λ_ _=>undef) rfl (dS _) t (λi x h=>by simp at h) (λi j x c h=>by simp at h) (λi j x c h=>by simp at h) (λi j x c h=>by simp at h)
  obtain⟨B,l,q1,R,u,S,y,d,z,H,T,J⟩:=D.bb.hC i _ G;cases h with
  |view _ _ _ B' cap g cur A f m o U q=>rw[l]at f;injection f with f;subst f;rw[m]at d;injection d with d;injection d with d C;subst d C;have K:cap=y:=k6 q1 (by rw[<-o,<-z]);simpa using nil A cap M|kV _ _ A cap t _=>simpa using nil A cap t
 obtain⟨B,l,X⟩:=D.bb.hC i _ G;cases h with
 |view _ _ _ B' cap g cur A f m o U q=>
  rw[l]at f;injection f with f;subst f;obtain⟨q1,R,u,S,y,d,z,H,T,J⟩:=X;rw[m]at d;injection d with d;injection d with d C;subst d C;have K:cap=y:=k6 q1 (by rw[<-o,<-z]);subst K;have q:=q M;subst q;refine .sl _ _ _ (P.cellsOf g) _ (λi j=>cur.getD (i*P.cellsOf g+j) undef) (by simp[zX L]) cM H (λi x b=>?_) (λi j x c b r=>?_) (λi j x c b r=>?_) (λi j x c b r=>?_)
  .rw[gf]at b;split at b
   .exact u i x b
   .cases b
  .rw[gf]at b;split at b
   .rename_i hi;have b0:j<P.cellsOf g:=by rw[<-(u i x b).1];exact (aY.1 r).1
    have a0:i*P.cellsOf g+j<cur.size:=by rw[o];have:(i+1)*P.cellsOf g<=cap*P.cellsOf g:=fR _ M;rw[eO,jG]at this;omega
    rw[dW,pB m];simp[a0]
   .cases b
  .exact Q _ l _ (by rw[dW])
  .rw[gf]at b;split at b
   .exact (J i j x c b r).mono N
   .cases b
 |kV=>omega
theorem Km{x:qm}(C:o.op=.call {callee:=.value x,args:=args,argTypes:=argTypes})(R:aW n o=W)(y:iI s x=O (f,[]))(X:looks P s args.toList xs)
  {rs:Z RV} (a0:nm P E f xs (.ret rs)) (b0:∀r∈rs,Fs r) (c0:K (s.take o.dst rs)):dE P E w0 I0 n o s K:=by
 rintro a w ⟨I,be,l⟩ E0;obtain⟨d0,e0⟩:=a0;have S:=aG R (x:=x) (by simp[C,Op.operands,Call.operands]) l;have f0:s.ev x=.val (.fn f []):=by
  unfold iI at y;split at y
  .rename_i G0 H0 h;simp only[ax,bc]at y;rw[h,y.1,y.2]
  .cases y
 rw[f0]at S;obtain⟨us,e1,g0⟩:∃us:Array Jz,a.eval x=.func (.func f) #[] us/\us.size=0:=by
  have h0:cq w I (a.eval x) (.fn f []):=S;generalize a.eval x=u at*;cases h0 with
  |fn f vs caps D z=>exact ⟨vs,rfl,by simpa using D⟩
 have i0:us=#[]:=Tq g0;subst i0;let G:aD:=I.plus λp=>(∃d B,s.b d≠Y/\be d=O B/\p.block=B)∨∃i B,s.a i≠Y/\I.ar i=O B/\p.block=B;have j0:∀p,G p->p.block<w.heap.size/\¬E.cB w p.block:=by
  rintro p (g|⟨d,B,l0,m,rfl⟩|⟨i,B,hi,m,rfl⟩)
  .exact ⟨l.since.lt p g,l.since.off p g⟩
  .obtain ⟨q1,H,m0,J⟩:=l.bU d _ l0 m;exact⟨H,J⟩
  .obtain ⟨q1,H,m0,J,J0⟩:=l.bb.bU i _ hi m;exact⟨H,J⟩
 have n0:k8 w G (args.map a.eval).toList xs:=by
  obtain⟨D,o0⟩:=X;refine⟨by simp[D],λj v c hv L=>?_⟩;simp only[Array.toList_map,dC,ck]at hv;obtain⟨p,g,rfl⟩:=hv;have b:=o0 j p c g L;have t:=aG R (x:=p) (by simp[C,Op.operands,Call.operands];exact .inr (by simpa using bF g)) l;rcases b with b|b;rotate_left
  .exact (dN t b).mono (.plus _ _ _)
  unfold wV at b;split at b
  .rename_i d gg off len z;rw[z]at t;split at b
   .rename_i p0;split at b
    .rename_i e ys N;simp only[ax]at b;subst b;exact uL N (l.bG d _ N) (t.2 p0) (.plus _ _ _) (λB m p g=>.inr (.inl ⟨d,B,by simp[N],m,g⟩))
    .cases b
   .cases b
  .rename_i i sz len z;rw[z]at t;split at b
   .rename_i e ys T;split at b
    .rename_i q0;obtain⟨rfl,r0⟩:=q0;simp only[ax]at b;subst b;exact DL l t T r0 (.plus _ _ _) λB m p g=>.inr (.inr ⟨i,B,by simp[T],m,g⟩)
    .cases b
   .cases b
  .rename_i z;rw[z]at t;simp only[ax]at b;subst b;generalize a.eval p=v at t;cases(show cq w I v .gx from t)with
   |gx A=>
    cases A with
    |none=>exact .eU 0|some a=>exact .sl a 0 0 0 [] (λ_ _=>undef) rfl (a6 _) (dS _) (λi x h=>by simp at h) (λi j x c h=>by simp at h) (λi j x c h=>by simp at h) (λi j x c h=>by simp at h)
  .exact (dN t b).mono (.plus _ _ _)
 have L:=e0 w G (args.map a.eval) l.since.h5 j0 n0;have s0:(execOp a.eval o).run P w=.ok (.enter f (args.map a.eval)) w:=by simp only[execOp,C,resolve,e1,Deferred.ofValue,b9,cF,cz,invoke,Tp,W7,d0 _ w]
 unfold Oper.wp;rw[s0];simp only[zZ];refine L.mono λK0 w' g=>?_;obtain⟨v,I',bo,rfl,q,t0,u0,U,_⟩:=g;have v0:eL E.plain w I w' I:=⟨q.os,q.tape,q.output,q.size,q.block,q.cB,q.h5,λ_ h=>h,λ_ _ h=>h,λ_=>rfl,q.iq,λ_ h=>.inl h,λp g=>jf (l.since.lt p g) q.size,λp g=>q.off p (q.qG p (.inl g))⟩
 have x0:=l.As v0;have Q:∀B,E.plain.fresh w B->w.heap.size<=B:=λB=>cm.fp;obtain⟨y0,A0⟩:=x0.take (bo:=bo) (base:=E.fresh w0) (HD (E:=E) (I:=I) (I':=I') rfl (λB m=>.inl (fk l.since.size (Q B m))) (λp g=>q.qG p (.inl g)) b0 t0) u0 (λ_ h=>h)
  (λk B m d' B0 C0=>by have:=Q B (U k B m);have:=(l.bU d' B B0 C0).2.1;omega)
  (λk B m i hi D0=>by have:=Q B (U k B m);have:=(l.bb.bU i B hi D0).2.1;omega) o.dst
 exact⟨_,⟨I,y0,A0⟩,c0⟩
theorem nm.h {f:JC} {args:Z AV} {out:ni} (h:nm P E f args out) (A:Nat->V Ob) (Vloc:Nat->tl):np P E f args A Vloc out A Vloc:=by
 refine⟨h.1,λw0 I0 vs N u s c=>(h.2 w0 I0 vs N u c).mono λe w d=>?_⟩;have D:∀{w:zI}{I:aD},eL E.plain w0 I0 w I->eL (E.dn A I0) w0 I0 w I:=λh=>⟨h.os,h.tape,h.output,h.size,λk Q y _=>h.block k Q y (E.eG k),h.cB,h.h5,h.qG,h.ar,λ_=>h.NU rfl,h.iq,λp d=>(h.new p d).imp id (λh=>h.imp id (λh=>(E.eG _ h).elim)),h.lt,h.off⟩
 have G:∀{w:zI}{I:aD}{T:Nat->Prop},eL E.plain w0 I0 w I->(∀B,T B->w0.heap.size<=B)->my P (E.dn A I0) w0 w I A Vloc T:=λ{w I T} h' R=>by
  have H:I.ar=I0.ar:=h'.NU rfl;have S:∀i B,A i≠Y->I0.ar i=O B->w.heap[B]?=w0.heap[B]?:=λi B hi g=>by obtain⟨q1,m,t,n,J⟩:=s.bU i B hi g;exact h'.block B m n (E.eG B)
  have U:dD w0 w I0 I:=⟨h'.qG,h'.ar,λp v d hv=>by rw[dw (h'.block p.block (u p d).1 (u p d).2 (E.eG _))];exact hv,h'.iq⟩
  have:=s.cK (w':=w) U H S h'.size (λp d=>by
   rcases h'.new p d with l|l|l
   .exact .inl l
   .refine .inr λi hi X=>?_;have:=(s.bU i _ hi X).2.1;omega
   .exact (E.eG _ l).elim) (λb d0 y=>LZ λa0=>by
    rcases h'.cB b y with l|l
    .exact a0 l
    .omega) (λ_ h=>.inl h)
  refine⟨this.hC,this.inj,λi B hi g=>?_,this.un,this.ro⟩;obtain⟨q1,m,t,n,_⟩:=this.bU i B hi g;refine⟨q1,m,t,n,λb0=>?_⟩;have e0:=R B b0;rw[H]at g;have f0:=(s.bU i B hi g).2.1;omega
 cases out with
 |ret rs=>
  obtain⟨v,I,bo,rfl,hs,z,c0,K,_⟩:=d;refine⟨v,I,bo,rfl,D hs,?_,c0,λj B g=>.inl (cm.fp (K j B g)),G hs λB ⟨j,g⟩=>cm.fp (K j B g)⟩;have C:∀(bo:V Nat)(v:Jz)(r:RV),ml P E.plain w I (E.plain.fresh w0) bo v r->ml P (E.dn A I0) w I ((E.dn A I0).fresh w0) bo v r:=λbo v r c=>by
   cases r with
   |v x=>exact c|bU e xs=>
    obtain⟨h1,o,q,L⟩:=c;refine⟨h1,o,q,?_⟩;cases bo with
    |none=>exact L|some B=>obtain⟨q1,m,t,n,J⟩:=L;exact⟨.inl (cm.fp q1),m,t,n,J⟩
  match rs,z with
  |[r],z=>exact C _ _ _ z|[],⟨vs,h1,o,q⟩=>exact ⟨vs,h1,o,λj r c=>C _ _ _ (q j r c)⟩
  |a::b::rs,⟨vs,h1,o,q⟩=>exact ⟨vs,h1,o,λj r c=>C _ _ _ (q j r c)⟩
 |dO x=>obtain⟨v,I,rfl,hs,c,_⟩:=d;exact⟨v,I,rfl,D hs,c,G hs λ_ h=>h.elim⟩
theorem AL{x:qm}{j hi:V qm}(f:o.op=.slice t x j hi Y)(k:aW n o=W)(r:ga P t=O e)(u:0<P.cellsOf e){sz:Nat}(z:s.ev x=.val (.view i sz len))
  {h:Nat} (C:lU s 0 j=O 0) (D:lU s len hi=O h) (Q:h<=len):dQ P E w0 I0 n o s (.val (.view i sz h)):=
 λa w I be l=>by
  have d:=aG k (x:=x) (by simp[f,Op.operands]) l;rw[z]at d;replace d:cq w I (a.eval x) (.view i sz len):=d;have m:∀(A:V Mc)(cap:Nat),len<=cap->a.eval x=.slice A len cap->∃b,(A=b∨A.map (·.add (0*P.cellsOf e))=b)/\(execOp a.eval o).run P w=.ok (.value (.slice b h cap)) w:=λA cap p hv=>by have c:=lI (P:=P) k l (w:=w) (A:=A) (cap:=cap) (mx:=Y) (eH r) u (λy G=>by rcases G with h|h|h<;>simp[f,Op.operands,h]) C D (by simp[lU]) (dS _) M (a6 _) (.inl rfl);refine⟨if cap=0 then A else A.map (·.add (0*P.cellsOf e)),by split<;>simp,?_⟩;simp only[execOp,f,hv,b9,iE]at c⊢;rw[c];rfl
  generalize hv:a.eval x=v at d;cases d with
  |view _ _ _ B cap e' cur A H J K p g=>obtain⟨b,q,c⟩:=m A cap p hv;refine⟨_,c,.view i sz h B cap e' cur b H J K M λL=>?_⟩;have g:=g L;subst g;rcases q with rfl|rfl<;>simp[dW]
  |kV _ _ A cap N hi=>obtain⟨b,q,c⟩:=m A cap (dS _) hv;obtain rfl:h=0:=M;exact⟨_,c,.kV i sz b cap N hi⟩
theorem TB(t:Nat){e:Nat}(z:E.ro i=Y)(A:s.r t=.val (.view i (P.cellsOf e) len))(k:s.a i=O (.bi e xs))(C:len<=xs.length)(h:gi P E w0 I0 n s a w):
  gi P E w0 I0 n {s with r:=aa s.r t (.val (.sl (xs.take len))),a:=aa s.a i Y} a w:=by
 obtain⟨I,be,h⟩:=h;have o:s.a i≠Y:=by simp[k]
 obtain⟨B,l,T⟩:=h.bb.hC i _ k;obtain⟨o1,o2,o3,D,G⟩:=h.bb.bU i B o l;have c:=h.PS i z;have q:∀d',s.g d'<s.g d'∨(s.g d'=s.g d'/\ff P w w be be s.b s.b d'):=λd'=>.inr ⟨rfl,λh=>⟨h,rfl⟩,λ_ _ _ h=>h⟩;have H:∀j,aa s.a i Y j≠Y->j≠i/\s.a j≠Y:=λj f=>by
  have e:j≠i:=λe=>by subst e;simp at f
  exact⟨e,by simpa only[aJ _ _ e]using f⟩
 refine⟨I.plus λp=>p.block=B,be,h.since.step (w':=w) rfl rfl rfl (a6 _) (λ_=>False) (λ_ _ _=>rfl) (λ_ J=>J.elim) (gh.refl w) (λ_ h=>.inl h) rfl ?_,c.size,c.defers.mono (.plus _ _ _),
  λm u=>?_,λd' x K=>(c.bG d' x K).cK (.plus _ _ _) q rfl (λ_ _=>rfl),c.inj,λd' B' v d=>?_,c.sF,
  c.fS (.plus _ _ _) rfl (λ_=>False) (λ_ _ _ _ h=>h) (λ_ _ _=>rfl) (a6 _) (λ_ h=>h.elim) (λp b=>b.imp id λb j f L=>?_) (λ_ h=>.inl h)⟩
 .rintro p (b|rfl)
  .exact .inl b
  .exact .inr ⟨o1,o2,D⟩
 .by_cases g:m=t
  .subst g;have y:=h.cu m u;rw[A]at y;simp only[bK];exact DL h y k C (.plus _ _ _) λB' d p b=>.inr (by rw[l]at d;cases d;exact b)
  .simp only[aJ _ _ g];exact(c.cu m u).cK (.plus _ _ _) q
 .obtain ⟨q1,N,Q,R⟩:=c.bU d' B' v d;refine⟨q1,N,λp b e=>?_,R⟩;rcases b with b|b
  .exact Q p b e
  .exact G ⟨d',v,by rw[d];exact bH O (e.symm.trans b)⟩
 .obtain ⟨g,S⟩:=H j f;exact g (h.bb.inj j i _ S o L (by rw[l];exact bH O b.symm))
theorem W0(t:Nat)(g:s.r t=.val .gx)(h:gi P E w0 I0 n s a w):gi P E w0 I0 n {s with r:=aa s.r t (.val (.sl []))} a w:=by
 obtain⟨I,be,h⟩:=h;refine⟨I,be,h.since,h.size,h.defers,λb e=>?_,h.bG,h.inj,h.bU,h.sF,h.bb⟩;by_cases f:b=t
 .subst f;have d:=h.cu b e;rw[g]at d;simp only[bK];generalize a.tmps.getD b undef=v at d;cases(show cq w I v .gx from d)with
  |gx A=>
   cases A with
   |none=>exact .eU 0|some a=>exact .sl a 0 0 0 [] (λ_ _=>undef) rfl (a6 _) (dS _) (λi x h=>by simp at h) (λi j x c h=>by simp at h) (λi j x c h=>by simp at h) (λi j x c h=>by simp at h)
 .simpa only[aJ _ _ f]using h.cu b e
theorem wW{x:qm}(h:o.op=.makeSlice t x y)(r:aW n o=W){d:Nat}(L:o.dst=O d)(N:P.underlying t=O (.slice e)){b:AV}(Q:ZC P e b.cells)(R:b.wf)(S:0<P.cellsOf e)
  {k':Pv} (f:s.ev x=.val (.fl (.int k m))) (T:s.ev y=.val (.fl (.int k' m))) (h0:0<=m) (u:m.toNat<=maxLen) (U:m.toNat*P.bytesOf e<=281474976710656)
  (X:K (s.cH d e (List.replicate m.toNat b))):dE P E w0 I0 n o s K:=by
 rintro a w ⟨I,be,l⟩ l0;obtain⟨i,z,hi,hz,a0,A,b0,c0⟩:=Q;have B:=aG r (x:=x) (by simp[h,Op.operands]) l;have C:=aG r (x:=y) (by simp[h,Op.operands]) l;rw[f]at B;rw[T]at C;have e1:=cb B;have e2:=cb C;have d0:(i.bytes:Int)*m<=281474976710656:=by rw[tq hi]at U;have g:((m.toNat*i.bytes:Nat):Int)<=281474976710656:=M;rw[Int.natCast_mul,Int.toNat_of_nonneg h0]at g;rwa[Int.mul_comm]
 have e0:=run_make (P:=P) w t e i z N hi hz k k' m m h0 (lH _) d0 (by simp only[maxLen]at u;omega);refine fm (v:=.slice (O ⟨w.heap.size,0,Y⟩) m.toNat m.toNat) (w':=w.alloc (.cells (madeCells z.cells (m.toNat*i.size)) e)) (by simp[execOp,h,e1,e2,e0]) ⟨_,⟨I,aa be d (O w.heap.size),?_⟩,X⟩;rw[L];have p:=rX hi;have D:b.cells.length=P.cellsOf e:=by rw[b0,p,A]
 have:=l.cH (w':=w.alloc (.cells (madeCells z.cells (m.toNat*i.size)) e)) d rfl rfl rfl rfl (List.replicate m.toNat b) S (cap:=m.toNat) (by rw[size_madeCells,p]) u aE
  (λx f=>by rw[VO f];exact ⟨D,R⟩)
  (λi2 j x c g G=>by
    have f:=VO (bF g);subst f;have f0:i2<m.toNat:=by simpa using(aY.1 g).1
    have q:j<P.cellsOf e:=by rw[<-D];exact (aY.1 G).1
    have H:=pC f0 (a6 _) q;rw[p]at H q⊢;have g0:(madeCells z.cells (m.toNat*i.size)).getD (i2*i.size+j) undef=z.cells.getD j undef:=by
     have i0:(i2*i.size+j)%z.cells.size=j:=by rw[A,tg,Nat.mul_add_mod,Nat.mod_eq_of_lt q]
     simp only[madeCells,jl,Array.getElem?_map,Array.getElem?_range,aj H,cj,eP];rw[i0];have j0:j<z.cells.size:=M;simp[j0]
    rw[g0];have J:j<z.cells.size:=M;have hv:z.cells[j]?=O z.cells[j]:=by simp[J]
    have:=wN (w:=w) (I:=I) (qO.1 a0 _ (jP hv)) (c0 j _ c hv G);simpa[J]using this)
 simpa using this
end
section
variable{P:qK}{E:cm}{w0:zI}{I0:aD}{n:Nat}{o:JB}{s:St}{a:Act}{w:zI}{I:aD}{be:Nat->V Nat}
theorem y9(a:P.underlying t=O (.array N e))(b:0<P.cellsOf e)(p:Mc)(k:Pv)(m:Int)(h0:0<=m)(c:m<N)(w:zI):
  (Instr.indexAt t (.pointer (O p)) (.int k m)).run P w=.ok (.pointer (O (p.add (m.toNat*P.cellsOf e)))) w:=by
 simp[Instr.indexAt,asIntOf,ef a,Instr.sureAddr,fT rfl b,h0,c]
def P6(j:Nat):cy->cy
 |.dT d g sz i k=>.dT d g sz i (k+j)|.val (.ptr i off)=>.val (.ptr i (off+j))
 |.val (.ref cs)=>.val (.ref (cs.drop j))|_=>.none
theorem AM{x:qm}(f:o.op=.indexAddr t x y)(l:aW n o=W)(u:P.underlying t=O (.array N e))(z:P.cellsOf e=1)(A:s.ev y=.val (.fl (.int k m)))(h0:0<=m)(C:m<N)
  (c:(∃cs,s.ev x=.val (.ref cs))∨(∃d gg sz i k,s.ev x=.dT d gg sz i k/\gg=s.g d/\s.b d≠Y)∨∃i off,s.ev x=.val (.ptr i off)):dQ P E w0 I0 n o s (P6 m.toNat (s.ev x)):=
 λa w I be q=>by
  have b:=aG l (x:=x) (by simp[f,Op.operands]) q;have r:=aG l (x:=y) (by simp[f,Op.operands]) q;rw[A]at r;have e2:=cb r;have g:∀p,a.eval x=.pointer (O p)->(execOp a.eval o).run P w=.ok (.value (.pointer (O (p.add m.toNat)))) w:=λp h=>by have:=y9 u M p k m h0 C w;rw[z,zY]at this;simp[execOp,f,h,e2,this]
  rcases c with⟨cs,c⟩|⟨d,gg,sz,i,k',c,D,G⟩|⟨i,off,c⟩
  .rw[c]at b⊢;obtain⟨p,e1,h⟩:=cq.PD b;exact⟨_,g p e1,h _⟩
  .rw[c]at b⊢;obtain⟨B,j,e1⟩:=tp b D G;refine⟨_,g _ e1,b.1,λ_ _=>⟨B,j,?_⟩⟩;rw[dW,jd]
  .rw[c]at b⊢;generalize hv:a.eval x=v at b;cases(show cq w I v (.ptr i off)from b)with
   |ptr _ _ B j=>refine⟨_,g _ hv,?_⟩;rw[dW];exact cq.ptr (w:=w) (I:=I) i (off+m.toNat) B j
theorem AN{x:qm}(b:o.op=.index t x y)(f:aW n o=W)(j:P.underlying t=O (.array N e))(l:P.cellsOf e=1)(p:k7 P e=O F)(q:s.ev y=.val (.fl (.int k m)))(h0:0<=m)(h1:m<N)
  {cs:Z AV} (r:s.ev x=.val (.agg cs)) (g:cs[m.toNat]?=O c):dQ P E w0 I0 n o s (.val c):=
 λa w I be h=>by
  have d:=aG f (x:=x) (by simp[b,Op.operands]) h;have i:=aG f (x:=y) (by simp[b,Op.operands]) h;rw[q]at i;rw[r]at d;have e2:=cb i;generalize hv:a.eval x=v at d;cases(show cq w I v (.agg cs)from d)with
  |agg vs _ u z=>
   have A:m.toNat<vs.size:=by rw[u];exact (aY.1 g).1
   refine⟨vs.getD m.toNat undef,?_,z _ _ g⟩;simp[execOp,b,hv,e2,Instr.index,asIntOf,ef j,h0,h1,part,oQ p,fT (P:=P) l M,A]
end
section
variable{P:qK}{E:cm}{w0:zI}{I0:aD}{n:Nat}{o:JB}{s:St}{K:St->Prop}{a:Act}{w:zI}{I:aD}{be:Nat->V Nat}
theorem za{first:Array qm}(d:o.op=.makeFunc (.func f) first #[])(h:aW n o=W)(i:cP s first.toList=O xs):
  dQ P E w0 I0 n o s (.val (.lT f xs)):=
 λa w I be k=>by
  have b:=kk h k (ps:=first.toList) (λy l=>by simp[d,Op.operands];exact (by simpa using l)) i;refine⟨.func (.func f) (first.map a.eval) #[],by simp[execOp,d,Instr.makeFunc],.lT f _ _ (by simpa using b.1) λj c e=>?_⟩;have m:j<xs.length:=(aY.1 e).1;have g:j<first.size:=by have:=b.1;simp at this;omega
  have:=b.2 j (a.eval first[j]) c (by simp[g]) e;simpa[g]using this
theorem Od{x:qm}(d:o.op=.call {callee:=.value x,args:=args,argTypes:=argTypes})(g:aW n o=W){first:Z AV}(l:s.ev x=.val (.lT f first))(m:cP s args.toList=O xs)
  (p:Go.Proofs.Enters P f) (h:aL P E w0 I0 n s a w I be):∃vs:Array Jz,(execOp a.eval o).run P w=.ok (.enter f vs) w/\k8 w I vs.toList (first++xs):=by
 have i:=aG g (x:=x) (by simp[d,Op.operands,Call.operands]) h;rw[l]at i;obtain⟨vs,e1,q,r⟩:∃vs:Array Jz,a.eval x=.func (.func f) vs #[]/\vs.size=first.length/\∀(j:Nat)(c:AV),first[j]?=O c->cq w I (vs.getD j undef) c:=by
  have t:cq w I (a.eval x) (.lT f first):=i;generalize a.eval x=u at*;cases t with
  |lT f vs first z A=>exact ⟨vs,rfl,z,A⟩
 have k:=kk g h (ps:=args.toList) (λy B=>by simp[d,Op.operands,Call.operands];exact .inr (by simpa using B)) m;refine⟨vs++(args.map a.eval),?_,by have:=k.1;simp at this⊢;omega,λj v c hv b=>?_⟩
 .simp only[execOp,d,resolve,e1,Deferred.ofValue,b9,cF,cz,invoke,W7,p (vs++(args.map a.eval)) w]
 .simp only[Pw]at hv;by_cases C:j<first.length
  .rw[fx cM]at hv;rw[fx C]at b;have:=r j c b;rw[jO]at hv;simpa[hv]using this
  .rw[im cM]at hv;rw[im M]at b;have e:j-vs.toList.length=j-first.length:=by simp[q]
   rw[e]at hv;exact k.2 _ v c (by simpa using hv) b
theorem vj(r:E.dc=F)(t:∀i,E.ro i=Y)(m:∀a w I be,aL P E w0 I0 n s a w I be->∃vs:Array Jz,(execOp a.eval o).run P w=.ok (.enter f vs) w/\k8 w I vs.toList ys)
  {a':Nat->V Ob} {u':Nat->tl} (D:np P E f ys s.a s.u out a' u') (z:NX out (λrs=>K (({s with a:=a',u:=u'}:St).take o.dst rs)) (λy=>X y {s with a:=a',u:=u'})):nq P E w0 I0 n o s K X:=by
 rintro a w ⟨I,be,b⟩ f0 G;obtain⟨g0,H⟩:=D;obtain⟨vs,m,J⟩:=m a w I be b;have L:my P (E.dn s.a I) w w I s.a s.u (λ_=>False):=⟨b.bb.hC,b.bb.inj,λi B hi d=>by obtain⟨q1,N,Q,R,h0⟩:=b.bb.bU i B hi d;exact⟨.inr (cm.gI.2 ⟨i,hi,d⟩),N,Q,R,id⟩,b.bb.un,λi x h=>by cases h⟩
 have S:=H w I vs b.since.h5 (λp g=>⟨b.since.lt p g,b.since.off p g⟩) L J;unfold Oper.wp;rw[m];simp only[zZ];refine S.mono λe w' g=>?_;cases out with
 |ret rs=>
  obtain⟨v,I',bo,rfl,q,T,U,a0,j⟩:=g;have b0:=b.uR r t q j;have c0:∀k B,bo k=O B->∀d',s.b d'≠Y->be d'≠O B:=λk B c d' A C=>by
   have i0:=(b.bU d' B A C).2.1;rcases a0 k B c with l|l
   .omega
   .obtain ⟨i,hi,d⟩:=cm.gI.1 l;exact(b.bb.bU i B hi d).2.2.2.2 ⟨d',A,C⟩
  obtain⟨d0,l⟩:=b0.take T U (λB c=>by
   rcases c with c|c
   .exact .inl (fk b.since.size c)
   .obtain ⟨i,hi,d⟩:=cm.gI.1 c;exact(b.bb.bU i B hi d).1) c0 (λk B c i hi d=>(j.bU i B hi d).2.2.2.2 ⟨k,c⟩) o.dst
  exact⟨_,⟨I',d0,l⟩,z⟩
 |dO y=>obtain⟨v,I',rfl,q,e0,j⟩:=g;exact G y v _ a w' I' be z (b.uR r t q j) e0
theorem HE(h:∀a w I be,aL P E w0 I0 n s a w I be->∃vs:Array Jz,(execOp a.eval o).run P w=.ok (.enter f vs) w/\k8 w I vs.toList ys)
  (q:nm P E f ys out) (j:NX out (λrs=>K (s.take o.dst rs)) (λy=>X y s)):nq P E w0 I0 n o s K X:=by
 rintro a w ⟨I,be,b⟩ R r;obtain⟨S,t⟩:=q;obtain⟨vs,h,u⟩:=h a w I be b;have x:=t w I vs b.since.h5 (λp c=>⟨b.since.lt p c,b.since.off p c⟩) u;unfold Oper.wp;rw[h];simp only[zZ];refine x.mono λe w' c=>?_;cases out with
 |ret rs=>
  obtain⟨v,I',bo,rfl,g,z,A,l,_⟩:=c;have C:=b.As g;have D:∀k B,bo k=O B->∀d',s.b d'≠Y->be d'≠O B:=λk B d d' G H=>by have J:=(b.bU d' B G H).2.1;have:=cm.fp (l k B d);omega
  obtain⟨L,N⟩:=C.take z A (λB d=>.inl (fk b.since.size (cm.fp d))) D (λk B d i hi m=>by rw[g.NU rfl]at m;have J:=(b.bb.bU i B hi m).2.1;have:=cm.fp (l k B d);omega) o.dst;exact⟨_,⟨I',L,N⟩,j⟩
 |dO y=>obtain⟨v,I',rfl,g,Q,_⟩:=c;exact r y v s a w' I' be j (b.As g) Q
end
end Go.Ev
