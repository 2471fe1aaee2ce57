import Derived.Test.YtedadjfbbpjaiaaGreatZ25
set_option linter.all false
namespace Go.X
open Go Go.Ev
variable{b:Bool}{i n m:Nat}{α:Type}{a:Int}
section
variable{α β σ τ:Type}
theorem ri(l:List α)(i:Nat):aA l (i:Int)=l[i]?:=by simp[aA]
theorem ec{l:List α}(h:i<l.length):aA l (i:Int)=some l[i]:=by rw[ri];simp[h]
theorem pz(h:b=true):db b=some ():=by simp[db,h]
theorem bq{x:Int}(h1:-9223372036854775808<=x)(h2:x<=9223372036854775807):IntKind.i64.wrap x=x:=mR h1 h2
theorem oB(h:i<4611686018427387904):IntKind.i64.wrap ((i:Int)+1)=((i+1:Nat):Int):=by rw[mR (by omega) (by omega)];rfl
theorem RZ(a:Option α):both a a=a:=by simp[both]
theorem P7{b:Nat}(h1:n<=maxLen)(h2:n*b<=m):fits b n m=true:=by simp[fits,h1,h2]
theorem Ez{A:Type}{step:A->σ->(σ->Option β)->Option β}{done:σ->Option β}{r:β}(I:List A->σ->Prop)
  (hd:∀st,I [] st->done st=some r) (hs:∀left st i x,I left st->left[i]?=some x->∃jh,I (left.eraseIdx i) jh/\∀k,step x st k=k jh):
  ∀(n:Nat)(left:List A)(st:σ),left.length=n->I left st->m6 step done n left st=some r
 |0,left,st,h,hI=>by obtain rfl:=xc h;exact hd st hI|n+1,left,st,h,hI=>by show pv left.length (λi=>(left[i]?).bind λx=>step x st λjh=>m6 step done n (left.eraseIdx i) jh)=some r;refine Lb (by omega) λi hi=>?_;have hx:left[i]?=some left[i]:=cq hi;obtain⟨jh,h1,h2⟩:=hs left st i _ hI hx;rw[hx,aU,h2];exact Ez I hd hs n _ jh (by rw[List.length_eraseIdx_of_lt hi];omega) h1
end
section
variable{β γ:Type}
theorem nc(x:bE):eqStr x x=true:=by simp[eqStr]
theorem pA{x y:bE}(h:x≠y):eqStr x y=false:=by simpa[eqStr]using h
theorem Jf{l:List (bE×γ)}{k:bE}:aZ eqStr l k=none↔∀e∈l,e.1≠k:=by
 induction l with
 |nil=>simp[aZ]|cons e l ih=>
  obtain⟨a,v⟩:=e;by_cases h:k=a
  ·subst h;simp[aZ,nc]
  ·simp only[aZ,pA h,bc,ih,c6,forall_eq_or_imp];exact⟨λh1=>⟨λe=>h e.symm,h1⟩,λh1=>h1.2⟩
theorem EA{l:List (bE×γ)}{k:bE}{v:γ}(h:aZ eqStr l k=none):jy eqStr l k v=l++[(k,v)]:=by
 induction l with
 |nil=>rfl|cons e l ih=>
  obtain⟨a,w⟩:=e;by_cases e:k=a
  ·subst e;simp[aZ,nc]at h
  ·simp only[aZ,pA e,bc]at h;simp only[jy,pA e,bc,ih h,ou]
end
def T{α:Type}(o:Option α)(P:α->Prop):Prop:=∃r,o=some r/\P r
section
variable{α β σ τ:Type}
theorem aa{r:α}{P:α->Prop}(h:P r):T (some r) P:=⟨r,rfl,h⟩
theorem an{o:Option α}{Q:α->Prop}{k:α->Option β}{P:β->Prop}(h:T o Q)(hk:∀r,Q r->T (k r) P):T (o.bind k) P:=by obtain⟨r,hr,hq⟩:=h;rw[hr];exact hk r hq
theorem ag{o:Option α}{Q:α->Prop}{k:α->Option β}{P:β->Prop}(h:T o Q)(hk:∀r,o=Option.some r->Q r->T (k r) P):T (o.bind k) P:=by obtain⟨r,hr,hq⟩:=h;rw[hr];exact hk r hr hq
theorem gO{v:α}{k:α->Option β}{P:β->Prop}(h:T (k v) P):T ((Option.some v).bind k) P:=h
theorem dG{o:Option α}{P Q:α->Prop}(h:T o P)(hk:∀r,P r->Q r):T o Q:=by obtain⟨r,hr,hq⟩:=h;exact⟨r,hr,hk r hq⟩
theorem af{x y:Option α}{P:α->Prop}(h1:b=true->T x P)(h2:b=false->T y P):T (cond b x y) P:=by
 cases b
 ·exact h2 rfl
 ·exact h1 rfl
theorem bO{k:Unit->Option β}{P:β->Prop}(h:b=true)(hk:T (k ()) P):T ((db b).bind k) P:=by rw[pz h];exact hk
theorem aw{l:List α}{i:Int}{k:α->Option β}{P:β->Prop}(h0:0<=i)(h1:i<(l.length:Int))(hk:∀x,x∈l->l[i.toNat]?=Option.some x->T (k x) P):T ((aA l i).bind k) P:=by
 obtain⟨n,rfl⟩:=BC h0;have h:n<l.length:=by omega
 have e:aA l (n:Int)=Option.some l[n]:=ec h;rw[e];exact hk _ (fx h) (by simp[h])
theorem afM{l:List α}{k:α->Option β}{P:β->Prop}(h1:i<l.length)(hk:∀x,x∈l->l[i]?=Option.some x->T (k x) P):T ((l[i]?).bind k) P:=by have e:l[i]?=Option.some l[i]:=cq h1;rw[e];exact hk _ (fx h1) e
theorem qn{ε β γ:Type}{r:Except ε β}{f:ε->Option γ}{g:β->Option γ}{P:γ->Prop}(h1:∀e,r=.error e->T (f e) P)(h2:∀y,r=.ok y->T (g y) P):T (B1 r f g) P:=by
 cases r with
 |error e=>exact h1 e rfl|ok y=>exact h2 y rfl
theorem eJ{h:σ}{k:σ->Option α}{P:α->Prop}(hk:T (k h) P):T (cP h k) P:=hk
theorem aj{J:σ->Option α}{body:(σ->Option α)->Option α}{P:α->Prop}(R:σ->Prop)(h1:∀J:σ->Option α,(∀x,R x->T (J x) P)->T (body J) P)(h2:∀x,R x->T (J x) P):T (aM J body) P:=h1 J h2
theorem aG{f:(σ->Option β)->σ->Option β}{N:Nat}{s:σ}{P:β->Prop}(I:σ->Prop)(μ:σ->Nat)(h0:I s)(hN:μ s<N)
  (step:∀(rec:σ->Option β) s,I s->(∀s',I s'->μ s'<μ s->T (rec s') P)->T (f rec s) P):T (aE f N s) P:=by
 induction N generalizing s with
 |zero=>omega|succ N ih=>exact step _ s h0 λs' h1 h2=>ih h1 (by omega)
theorem lj{l:List α}{i:Int}(h0:0<=i)(h1:i<(l.length:Int)):∃x,aA l i=Option.some x/\x∈l/\l[i.toNat]?=Option.some x:=by
 obtain⟨n,rfl⟩:=BC h0;have h:n<l.length:=by omega
 exact⟨_,ec h,fx h,by simp[h]⟩
theorem l9{l:List α}(h:l.length*n<=140737488355328)(hl:l.length<=1152921504606846976):
  T (bif l.isEmpty then both (Option.some []) ((db (fits n (0+l.length) 140737488355328)).bind λ_=>Option.some (([]:List α)++l))else(db (fits n (0+l.length) 140737488355328)).bind λ_=>Option.some (([]:List α)++l)) (λr=>r=l):=by
 have hf:db (fits n (0+l.length) 140737488355328)=Option.some ():=pz (P7 (by rw[cS];exact dI hl (by decide)) (by simpa using h));rw[hf];cases l with
 |nil=>exact ⟨[],RZ _,rfl⟩|cons x l=>exact ⟨x::l,rfl,rfl⟩
end
theorem bi{b:Nat}(h:n*b<=m)(hn:n<=1152921504606846976):fits b n m=true:=P7 (dI hn (by decide)) h
section
variable{β:Type}{x y:Option β}{P:β->Prop}
theorem bg{b:Int}(h1:a<b->T x P)(h2:b<=a->T y P):T (cond (decide (a<b)) x y) P:=af (λh=>h1 (eF h)) λh=>h2 (fI.mp (of_decide_eq_false h))
theorem kp{b:Int}(h1:a<=b->T x P)(h2:b<a->T y P):T (cond (decide (a<=b)) x y) P:=af (λh=>h1 (eF h)) λh=>h2 (Hb.mp (of_decide_eq_false h))
theorem cb[BEq α][LawfulBEq α]{a b:α}(h1:a=b->T x P)(h2:¬a=b->T y P):T (cond (a==b) x y) P:=af (λh=>h1 (eq_of_beq h)) λh=>h2 (ma.mp h)
theorem bL[BEq α][LawfulBEq α]{a b:α}(h1:¬a=b->T x P)(h2:a=b->T y P):T (cond (!(a==b)) x y) P:=af (λh=>h1 (ma.mp (by simpa using h))) λh=>h2 (by simpa using h)
theorem cA(h1:b=false->T x P)(h2:b=true->T y P):T (cond (!b) x y) P:=af (λh=>h1 (by simpa using h)) λh=>h2 (by simpa using h)
theorem uI{l:List α}{i:Int}{G:Prop}(h0:0<=i)(h1:i<(l.length:Int))(hk:∀x,aA l i=Option.some x->x∈l->l[i.toNat]?=Option.some x->G):G:=by obtain⟨x,a,b,c⟩:=lj h0 h1;exact hk x a b c
end
end Go.X
