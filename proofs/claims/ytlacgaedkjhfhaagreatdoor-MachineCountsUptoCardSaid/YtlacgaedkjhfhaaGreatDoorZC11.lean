import Derived.Test.YtlacgaedkjhfhaaGreatDoorZC10
set_option linter.all false
open Option renaming some->O,none->Y
open Bool renaming true->W,false->F
namespace Go.Ev
open Go
def XM(a:Nat->V Ob)(u:Nat->tl):St:={r:=λ_=>.none,b:=λ_=>Y,g:=λ_=>0,a:=a,u:=u}
def ZQ:Act:={tmps:=#[],defers:=[]}
section
variable{P:qK}{E:cm}{w0 w w':zI}{I0 I:aD}{a a0 a':Nat->V Ob}{u u':Nat->tl}
abbrev xB(P:qK)(E:cm)(w0:zI)(I0:aD)(a:Nat->V Ob)(u:Nat->tl)(w:zI)(I:aD):Prop:=aL P E w0 I0 0 (XM a u) ZQ w I λ_=>Y
def xB.start (c:E.h5 w0) (e:∀p,I0 p->p.block<w0.heap.size/\¬E.cB w0 p.block) (b:my P (E.dn a I0) w0 w0 I0 a u λ_=>False):xB P (E.dn a I0) w0 I0 a u w0 I0:=⟨eL.refl c e,rfl,.nil,λt o=>M,λd x f=>(by cases f),λd d' B h=>(h rfl).elim,λd B h=>(h rfl).elim,λd bo _ _ h=>(h rfl).elim,⟨b.hC,b.inj,λj B g i=>by obtain ⟨k,l,m,n,_⟩:=b.bU j B g i;exact ⟨k,l,m,n,λ⟨d,h,_⟩=>h rfl⟩,b.un,b.ro⟩⟩
def xB.post (h:xB P (E.dn a0 I0) w0 I0 a u w I) {v:Jz} {rs:Z RV} (hv:nj P (E.dn a0 I0) w I ((E.dn a0 I0).fresh w0) (λ_=>Y) v rs):Ho P (E.dn a0 I0) w0 I0 w a u (.ret rs) (.returned v):=⟨v,I,λ_=>Y,rfl,h.since,hv,(λj e B h=>by cases h),(λj B h=>by cases h),h.bb.hC,h.bb.inj,λj B b c=>by obtain ⟨d,g2,g3,g4,_⟩:=h.bb.bU j B b c;exact ⟨d,g2,g3,g4,λ⟨_,h⟩=>by cases h⟩,h.bb.un,h.bb.ro⟩
def xB.kQ (h:xB P E w0 I0 a u w I) (y:∀j,E.ro j=Y) {i B:Nat} {x:Ob} (hi:a i≠Y) (n:I.ar i=O B) (z:w'.os=w.os) (A:w'.tape=w.tape) (C:w'.output=w.output) (o:w.heap.size<=w'.heap.size)
  (c:∀k,k<w.heap.size->k≠B->w'.heap[k]?=w.heap[k]?) (D:gh w w' B) (g:oP P w' I B x):xB P E w0 I0 (aa a i (O x)) u w' I:=by
 obtain⟨q1,Q,H,q,_⟩:=h.bb.bU i B hi n;have r:∀B',gh w w' B':=λB' cur t J l=>by
  by_cases e:B'=B
  .subst e;exact D cur t J l
  .exact ⟨cur,(c B' (h4.1 l).1 e).trans l,rfl⟩
 have K:=h.since.step (I':=I) z A C o (λk=>k=B) (λk m L=>c k m L) (λk m=>by subst m;exact ⟨q1,q⟩) r (λ_ h=>h) rfl (λ_ h=>.inl h);have G:dD w w' I I:=.world (λp v s hv=>by rw[dw (c p.block (h.since.lt p s) (H p s))];exact hv) r;have N:∀b,b<w.heap.size->E.cB w' b->E.cB w b:=λb _ f=>(E.jm w w' h.since.h5 λb f=>c b (E.lt w b h.since.h5 f) (λe=>q (e▸f))).2 b f;exact⟨K,rfl,.nil,λt R=>M,λd x g=>(by cases g),λd d' B h=>(h rfl).elim,λd B h=>(h rfl).elim,λd bo _ _ h=>(h rfl).elim,h.bb.kQ hi n G c o g N y⟩
def xB.call {f:JC} {args:Z AV} {vs:Array Jz} {rs:Z RV} (h:xB P (E.dn a0 I0) w0 I0 a u w I) (d:np P E f args a u (.ret rs) a' u') (g:k8 w I vs.toList args):
  Calls P f vs w λe w'=>∃v I' bo,e=.returned v/\xB P (E.dn a0 I0) w0 I0 a' u' w' I'/\eL (E.dn a I) w I w' I'/\nj P (E.dn a I) w' I' ((E.dn a I).fresh w) bo v rs:=by
 refine(d.2 w I vs h.since.h5 (λp b=>⟨h.since.lt p b,h.since.off p b⟩) ⟨h.bb.hC,h.bb.inj,λj B h1 c=>?_,h.bb.un,λi x k=>by cases k⟩ g).mono λe w' l=>?_
 .obtain ⟨o,g2,g3,g4,_⟩:=h.bb.bU j B h1 c;exact⟨.inr (cm.gI.2 ⟨j,h1,c⟩),g2,g3,g4,λh=>h⟩
 .obtain ⟨v,I',bo,rfl,hs,m,_,_,n⟩:=l;exact⟨v,I',bo,rfl,h.uR (E:=E.dn a0 I0) rfl (λ_=>rfl) (a':=a') (u':=u') hs n,hs,m⟩
def vX{B k:Nat}{cur:Array Jz}{T:JA}{a:Nat×Nat}(hw:w.heap[B]?=O (.cells cur T a))(v:Jz):(w.setCell ⟨B,k,Y⟩ v).heap[B]?=O (.cells (cur.setIfInBounds k v) T a)/\(∀j,j≠B->(w.setCell ⟨B,k,Y⟩ v).heap[j]?=w.heap[j]?)/\(w.setCell ⟨B,k,Y⟩ v).heap.size=w.heap.size:=by
 rw[Go.Sort.setCell_eq];refine⟨?_,λj b=>?_,by simp[Go.Sort.mapBlock]⟩
 .simp[Go.Sort.mapBlock,G9,hw,Go.Sort.onCells]
 .simp[Go.Sort.mapBlock,G9,dz b]
def xB.xC (h:xB P E w0 I0 a u w I) {i B k:Nat} {cs:Z AV} {v:Jz} (f:a i=O (.cells cs)) (g:I.ar i=O B) (b:cs[k]?=O (.fl v)):w.cell? ⟨B,k,Y⟩=O v/\w.frozen? ⟨B,k,Y⟩=F:=by
 obtain⟨B',c,cur,T,hw,j,l⟩:=h.bb.hC i _ f;rw[g]at c;cases c;have d:k<cur.size:=by rw[j];exact (aY.1 b).1
 have e:=cb (l k _ b);simp only[jl,qP d,eP]at e;exact⟨by simp only[World.cell?,hw];simp[d,e],by simp[World.frozen?,hw]⟩
def xB.Ni (h:xB P E w0 I0 a u w I) (s:∀j,E.ro j=Y) {i B k:Nat} {cs:Z AV} (d:a i=O (.cells cs)) (f:I.ar i=O B) (l:k<cs.length) (v:Jz) (hv:Tk v):xB P E w0 I0 (aa a i (O (.cells (cs.set k (.fl v))))) u (w.setCell ⟨B,k,Y⟩ v) I:=by
 obtain⟨B',m,cur,T,hw,n,y⟩:=h.bb.hC i _ d;rw[f]at m;cases m;obtain⟨q1,g,J⟩:=vX (k:=k) hw v;have o:gh w (w.setCell ⟨B,k,Y⟩ v) B:=λc t q b=>by rw[hw]at b;cases b;exact ⟨_,q1,aE⟩
 refine h.kQ s (by rw[d];simp) f rfl rfl rfl M (λj _ z=>g j z) o ⟨_,T,q1,by simp[n],λj c b=>?_⟩;have A:(XM a u).a i≠Y:=by show a i≠Y;rw[d];simp
 obtain⟨_,_,C,_,_⟩:=h.bb.bU i B A f;have G:dD w (w.setCell ⟨B,k,Y⟩ v) I I:=.world (λp x D H=>by rw[dw (g p.block (C p D))];exact H) λB' r t q b=>by
  by_cases e:B'=B
  .subst e;exact o r t q b
  .exact ⟨r,(g B' e).trans b,rfl⟩
 by_cases e:j=k
 .subst e;rw[Hh l]at b;cases b;have:j<cur.size:=by rw[n];exact l
  simp only[jl,Array.getElem?_setIfInBounds_self_of_lt this,eP];exact .fl v hv
 .rw[zO (dz e)]at b;have:=y j c b;simp only[jl]at this⊢;rw[Dy (dz e)];exact this.mono G
def xB.Ui (h:xB P E w0 I0 a u w I) {i B:Nat} {cs:Z AV} (c:a i=O (.cells cs)) (d:I.ar i=O B) (k:Nat) (v:Jz):dD w (w.setCell ⟨B,k,Y⟩ v) I I:=by
 obtain⟨B',f,cur,T,hw,q,r⟩:=h.bb.hC i _ c;rw[d]at f;cases f;obtain⟨q1,g,s⟩:=vX (k:=k) hw v;have j:(XM a u).a i≠Y:=by show a i≠Y;rw[c];simp
 obtain⟨_,_,l,_,_⟩:=h.bb.bU i B j d;exact .world (λp x m n=>by rw[dw (g p.block (l p m))];exact n) λB' o t y b=>by
  by_cases e:B'=B
  .subst e;rw[hw]at b;cases b;exact ⟨_,q1,aE⟩
  .exact ⟨o,(g B' e).trans b,rfl⟩
def xB.drew (h:xB P E w0 I0 a u w I):xB P E w0 I0 a u w.drew I:=aL.grow h rfl rfl rfl (a6 _) λ_ _=>rfl
end
end Go.Ev
namespace Go.X
open Go Go.Ev
section
variable{U:cg}{T:dm U.C}{h:U.C 0}{A:Nat->V Ob}{Vloc:Nat->tl}
def eY.ZR (a:eY T bM h A Vloc) {k:Nat} (b:k<U.nk) {t:Ty} {l:Z (bL U.C t)} (c:tB U (.hC t) k h=O l) {i:Nat} {x:bL U.C t} (d:l[i]?=O x):A (dI k i)=O (.cells (enc T t x).cells):=by have:=a.at b rfl c i;have e:(l:Z (wY U.C (.hC t)))[i]?=O x:=d;rw[e]at this;exact ya this
def eY.XN (L:cw U T) (b:eY T bM h A Vloc) {k:Nat} (c:k<U.nk) {t:Ty} {l:Z (bL U.C t)} (d:tB U (.hC t) k h=O l) {i:Nat} {x y:bL U.C t} (e:l[i]?=O x) {h':U.C 0} (f:zc U (.hC t) k h (l.set i y)=O h'):eY T bM h' (aa A (dI k i) (O (.cells (enc T t y).cells))) Vloc:=eY.kQ L b c rfl (a:=.hC t) (l:=l) d (aY.1 e).1 (x:=y) f
end
end Go.X
