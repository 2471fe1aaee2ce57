import Derived.Test.YticakdhfjeljkaaGreatDoorZ11
set_option linter.all false
set_option maxRecDepth 20000
open Option renaming some->O,none->Y
open Bool renaming true->W,false->F
namespace Go.Ev
open Go
def ZQ(a:Nat->V Ob)(u:Nat->aa):St:={r:=λ_=>.none,b:=λ_=>Y,g:=λ_=>0,a:=a,u:=u}
def abB:Act:={tmps:=#[],defers:=[]}
section
variable{P:ai}{E:cd}{w0 w w':af}{I0 I:aA}{a a0 a':Nat->V Ob}{u u':Nat->aa}
abbrev yA(P:ai)(E:cd)(w0:af)(I0:aA)(a:Nat->V Ob)(u:Nat->aa)(w:af)(I:aA):Prop:=aJ P E w0 I0 0 (ZQ a u) abB w I λ_=>Y
theorem yA.start (c:E.hS w0) (e:∀p,I0 p->p.block<w0.heap.size/\¬E.cf w0 p.block) (b:mX P (E.bX a I0) w0 w0 I0 a u λ_=>False):yA P (E.bX a I0) w0 I0 a u w0 I0:=⟨ee.refl c e,rfl,.nil,λt k=>M,λd x f=>(by cases f),λd d' B h=>(h rfl).elim,λd B h=>(h rfl).elim,λd bo _ _ h=>(h rfl).elim,⟨b.h7,b.inj,λj B g i=>by obtain ⟨l,m,n,o,_⟩:=b.bR j B g i;grind,b.un,b.ro⟩⟩
theorem yA.post (h:yA P (E.bX a0 I0) w0 I0 a u w I) {v:ag} {rs:Z RV} (hv:ou P (E.bX a0 I0) w I ((E.bX a0 I0).fresh w0) (λ_=>Y) v rs):Eo P (E.bX a0 I0) w0 I0 w a u (.ret rs) (.returned v):=⟨v,I,λ_=>Y,rfl,h.since,hv,(λj d B h=>by cases h),(λj B h=>by cases h),h.aZ.h7,h.aZ.inj,λj B b c=>by obtain ⟨e,g2,g3,g4,_⟩:=h.aZ.bR j B b c;grind,h.aZ.un,h.aZ.ro⟩
theorem yA.pF (h:yA P E w0 I0 a u w I) (q:∀j,E.ro j=Y) {i B:Nat} {x:Ob} (hi:a i≠Y) (l:I.ar i=O B) (r:w'.os=w.os) (s:w'.tape=w.tape) (y:w'.output=w.output) (hsz:w.heap.size<=w'.heap.size)
  (c:∀k,k<w.heap.size->k≠B->w'.heap[k]?=w.heap[k]?) (z:gZ w w' B) (g:pM P w' I B x):yA P E w0 I0 (b8 a i (O x)) u w' I:=by
 obtain⟨q1,N,A,C,_⟩:=h.aZ.bR i B hi l;have m:∀B',gZ w w' B':=λB' cur t D H=>by
  by_cases e:B'=B
  .subst e;exact z cur t D H
  grind
 have J:=h.since.step (I':=I) r s y hsz (λk=>k=B) (λk n K=>c k n K) (λk n=>by grind) m (λ_ h=>h) rfl (λ_ h=>.inl h);have G:dK w w' I I:=.world (λp v o hv=>by rw[dn (c p.block (h.since.lt p o) (A p o))];exact hv) m;have L:∀b,b<w.heap.size->E.cf w' b->E.cf w b:=λb _ f=>(E.iU w w' h.since.hS λb f=>c b (E.lt w b h.since.hS f) (λe=>C (e▸f))).2 b f;exact⟨J,rfl,.nil,λt Q=>M,λd x g=>(by cases g),λd d' B h=>(h rfl).elim,λd B h=>(h rfl).elim,λd bo _ _ h=>(h rfl).elim,h.aZ.pF hi l G c hsz g L q⟩
def yA.call {f:bH} {args:Z AV} {vs:Array ag} {rs:Z RV} (h:yA P (E.bX a0 I0) w0 I0 a u w I) (g:ov P E f args a u (.ret rs) a' u') (k:lN w I vs.toList args):
  Calls P f vs w λe w'=>∃v I' bo,e=.returned v/\yA P (E.bX a0 I0) w0 I0 a' u' w' I'/\ee (E.bX a I) w I w' I'/\ou P (E.bX a I) w' I' ((E.bX a I).fresh w) bo v rs:=by
 refine(g.2 w I vs h.since.hS (λp b=>⟨h.since.lt p b,h.since.off p b⟩) ⟨h.aZ.h7,h.aZ.inj,λj B c d=>?_,h.aZ.un,λi x l=>by cases l⟩ k).mono λe w' m=>?_
 .obtain ⟨q,g2,g3,g4,_⟩:=h.aZ.bR j B c d;exact⟨.inr (cd.hU.2 ⟨j,c,d⟩),g2,g3,g4,λh=>h⟩
 .obtain ⟨v,I',bo,rfl,hs,n,_,_,o⟩:=m;exact⟨v,I',bo,rfl,h.vM (E:=E.bX a0 I0) rfl (λ_=>rfl) (a':=a') (u':=u') hs o,hs,n⟩
def wZ{B k:Nat}{cur:Array ag}{T:an}{a:Nat×Nat}(hw:w.heap[B]?=O (.cells cur T a))(v:ag):(w.setCell ⟨B,k,Y⟩ v).heap[B]?=O (.cells (cur.setIfInBounds k v) T a)/\(∀j,j≠B->(w.setCell ⟨B,k,Y⟩ v).heap[j]?=w.heap[j]?)/\(w.setCell ⟨B,k,Y⟩ v).heap.size=w.heap.size:=by
 rw[Go.Sort.setCell_eq];refine⟨?_,λj b=>?_,by simp[Go.Sort.mapBlock]⟩
 .simp[Go.Sort.mapBlock,EN,hw,Go.Sort.onCells]
 .simp[Go.Sort.mapBlock,EN,eN b]
theorem yA.yB (h:yA P E w0 I0 a u w I) {i B k:Nat} {cs:Z AV} {v:ag} (c:a i=O (.cells cs)) (d:I.ar i=O B) (e:cs[k]?=O (.fl v)):w.cell? ⟨B,k,Y⟩=O v/\w.frozen? ⟨B,k,Y⟩=F:=by
 obtain⟨B',b,cur,T,hw,hsz,f⟩:=h.aZ.h7 i _ c;rw[d]at b;cases b;have g:k<cur.size:=by grind
 have j:=bV (f k _ e);simp only[my,Rn g,gh]at j
 grind [World.cell?,World.frozen?]
theorem yA.OY (h:yA P E w0 I0 a u w I) (g:∀j,E.ro j=Y) {i B k:Nat} {cs:Z AV} (l:a i=O (.cells cs)) (d:I.ar i=O B) (m:k<cs.length) (v:ag) (hv:Vt v):yA P E w0 I0 (b8 a i (O (.cells (cs.set k (.fl v))))) u (w.setCell ⟨B,k,Y⟩ v) I:=by
 obtain⟨B',f,cur,T,hw,hsz,n⟩:=h.aZ.h7 i _ l;rw[d]at f;cases f;obtain⟨q1,o,z⟩:=wZ (k:=k) hw v;have q:gZ w (w.setCell ⟨B,k,Y⟩ v) B:=λc t r b=>by grind
 refine h.pF g (by grind) d rfl rfl rfl M (λj _ s=>o j s) q ⟨_,T,q1,by simp[hsz],λj c b=>?_⟩;have y:(ZQ a u).a i≠Y:=by show a i≠Y;grind
 obtain⟨_,_,A,_,_⟩:=h.aZ.bR i B y d;have G:dK w (w.setCell ⟨B,k,Y⟩ v) I I:=.world (λp x C D=>by grind [dn]) λB' H t r b=>by grind
 by_cases e:j=k
 .subst e;rw[tG m]at b;cases b;have:j<cur.size:=by grind
  simp only[my,Array.getElem?_setIfInBounds_self_of_lt this,gh];exact .fl v hv
 .rw[EW (eN e)]at b;have:=n j c b;simp only[my]at this⊢;rw[Ro (eN e)];exact this.mono G
theorem yA.Wh (h:yA P E w0 I0 a u w I) {i B:Nat} {cs:Z AV} (d:a i=O (.cells cs)) (b:I.ar i=O B) (k:Nat) (v:ag):dK w (w.setCell ⟨B,k,Y⟩ v) I I:=by
 obtain⟨B',c,cur,T,hw,hsz,f⟩:=h.aZ.h7 i _ d;rw[b]at c;cases c;obtain⟨q1,g,j⟩:=wZ (k:=k) hw v;have e:(ZQ a u).a i≠Y:=by show a i≠Y;grind
 obtain⟨_,_,l,_,_⟩:=h.aZ.bR i B e b;exact .world (λp x m n=>by grind [dn]) λB' o t q r=>by grind
def yA.drew (h:yA P E w0 I0 a u w I):yA P E w0 I0 a u w.drew I:=aJ.grow h rfl rfl rfl (bq _) λ_ _=>rfl
end
end Go.Ev
namespace Go.X
open Go Go.Ev
section
variable{U:cp}{T:dt U.C}{h:U.C 0}{A:Nat->V Ob}{Vloc:Nat->aa}
def fB.abC (a:fB T bF h A Vloc) {k:Nat} (b:k<U.nk) {t:Ty} {l:Z (bL U.C t)} (c:uz U (.h7 t) k h=O l) {i:Nat} {x:bL U.C t} (d:l[i]?=O x):A (dY k i)=O (.cells (enc T t x).cells):=by have:=a.at b rfl c i;have e:(l:Z (xT U.C (.h7 t)))[i]?=O x:=d;rw[e]at this;exact zc this
def fB.ZR (L:cD U T) (c:fB T bF h A Vloc) {k:Nat} (d:k<U.nk) {t:Ty} {l:Z (bL U.C t)} (e:uz U (.h7 t) k h=O l) {i:Nat} {x y:bL U.C t} (f:l[i]?=O x) {b:U.C 0} (g:Ao U (.h7 t) k h (l.set i y)=O b):fB T bF b (b8 A (dY k i) (O (.cells (enc T t y).cells))) Vloc:=fB.pF L c d rfl (a:=.h7 t) (l:=l) e (cr.1 f).1 (x:=y) g
end
end Go.X
