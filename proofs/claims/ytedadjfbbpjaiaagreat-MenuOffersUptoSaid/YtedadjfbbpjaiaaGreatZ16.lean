import Derived.Test.YtedadjfbbpjaiaaGreatZ15
set_option linter.all false
namespace Go.Ev
open Go
def Yc(a:Nat->Option Ob)(u:Nat->Bool):St:={r:=λ_=>.none,b:=λ_=>none,g:=λ_=>0,a:=a,u:=u}
def aeT:Act:={tmps:=#[],defers:=[]}
section
variable{P:Program}{E:Env}{w0 w w':World}{I0 I:Cells}{a a0 a':Nat->Option Ob}{u u':Nat->Bool}
abbrev yv(P:Program)(E:Env)(w0:World)(I0:Cells)(a:Nat->Option Ob)(u:Nat->Bool)(w:World)(I:Cells):Prop:=aC P E w0 I0 0 (Yc a u) aeT w I λ_=>none
theorem yv.start (hinv:E.inv w0) (hI:∀p,I0 p->p.block<w0.heap.size/\¬E.bN w0 p.block) (hA:nQ P (E.cx a I0) w0 w0 I0 a u λ_=>False):yv P (E.cx a I0) w0 I0 a u w0 I0:=⟨er.refl hinv hI,rfl,.nil,λt ht=>(by omega),λd x hx=>(by cases hx),λd d' B h=>(h rfl).elim,λd B h=>(h rfl).elim,λd bo _ _ h=>(h rfl).elim,⟨hA.obj,hA.inj,λj B h1 h2=>by obtain ⟨g1,g2,g3,g4,_⟩:=hA.own j B h1 h2;exact ⟨g1,g2,g3,g4,λ⟨d,h,_⟩=>h rfl⟩,hA.un,hA.ro⟩⟩
theorem yv.post (h:yv P (E.cx a0 I0) w0 I0 a u w I) {v:Value} {rs:List RV} (hv:jr P (E.cx a0 I0) w I ((E.cx a0 I0).fresh w0) (λ_=>none) v rs):Hu P (E.cx a0 I0) w0 I0 w a u (.ret rs) (.returned v):=⟨v,I,λ_=>none,rfl,h.since,hv,(λj j' B h=>by cases h),(λj B h=>by cases h),h.aO.obj,h.aO.inj,λj B h1 h2=>by obtain ⟨g1,g2,g3,g4,_⟩:=h.aO.own j B h1 h2;exact ⟨g1,g2,g3,g4,λ⟨_,h⟩=>by cases h⟩,h.aO.un,h.aO.ro⟩
theorem yv.xZ (h:yv P E w0 I0 a u w I) (jX:∀j,E.ro j=none) {i B:Nat} {x:Ob} (hi:a i≠none) (hB:I.ar i=some B) (Ay:w'.os=w.os) (ji:w'.tape=w.tape) (mJ:w'.output=w.output) (dh:w.heap.size<=w'.heap.size)
  (et:∀k,k<w.heap.size->k≠B->w'.heap[k]?=w.heap[k]?) (FM:Shape w w' B) (hx:qx P w' I B x):yv P E w0 I0 (bF a i (some x)) u w' I:=by
 obtain⟨q1,q2,q3,q4,_⟩:=h.aO.own i B hi hB;have U8:∀B',Shape w w' B':=λB' cur t fr hc=>by
  by_cases e:B'=B
  ·subst e;exact FM cur t fr hc
  ·exact ⟨cur,(et B' (eT.1 hc).1 e).trans hc,rfl⟩
 have hs:=h.since.step (I':=I) Ay ji mJ dh (λk=>k=B) (λk hk hm=>et k hk hm) (λk hk=>by subst hk;exact ⟨q1,q4⟩) U8 (λ_ h=>h) rfl (λ_ h=>.inl h);have G:cH w w' I I:=.world (λp v hp hv=>by rw[ct (et p.block (h.since.lt p hp) (q3 p hp))];exact hv) U8;have hf:∀b,b<w.heap.size->E.bN w' b->E.bN w b:=λb _ hb=>(E.stays w w' h.since.inv λb hb=>et b (E.lt w b h.since.inv hb) (λe=>q4 (e▸hb))).2 b hb;exact⟨hs,rfl,.nil,λt ht=>(by omega),λd x hx=>(by cases hx),λd d' B h=>(h rfl).elim,λd B h=>(h rfl).elim,λd bo _ _ h=>(h rfl).elim,h.aO.xZ hi hB G et dh hx hf jX⟩
theorem yv.call {f:FuncId} {args:List AV} {vs:Array Value} {rs:List RV} (h:yv P (E.cx a0 I0) w0 I0 a u w I) (hd:nE P E f args a u (.ret rs) a' u') (dH:mm w I vs.toList args):
  Calls P f vs w λe w'=>∃v I' bo,e=.returned v/\yv P (E.cx a0 I0) w0 I0 a' u' w' I'/\er (E.cx a I) w I w' I'/\jr P (E.cx a I) w' I' ((E.cx a I).fresh w) bo v rs:=by
 refine(hd.2 w I vs h.since.inv (λp hp=>⟨h.since.lt p hp,h.since.off p hp⟩) ⟨h.aO.obj,h.aO.inj,λj B h1 h2=>?_,h.aO.un,λi x hx=>by cases hx⟩ dH).mono λe w' he=>?_
 ·obtain ⟨g1,g2,g3,g4,_⟩:=h.aO.own j B h1 h2;exact⟨.inr (Env.eE.2 ⟨j,h1,h2⟩),g2,g3,g4,λh=>h⟩
 ·obtain ⟨v,I',bo,rfl,hs,hr,_,_,hA⟩:=he;exact⟨v,I',bo,rfl,h.ur (E:=E.cx a0 I0) rfl (λ_=>rfl) (a':=a') (u':=u') hs hA,hs,hr⟩
theorem yw{B k:Nat}{cur:Array Value}{T:TypeId}{fr:Nat×Nat}(hw:w.heap[B]?=some (.cells cur T fr))(v:Value):(w.setCell ⟨B,k,none⟩ v).heap[B]?=some (.cells (cur.setIfInBounds k v) T fr)/\(∀j,j≠B->(w.setCell ⟨B,k,none⟩ v).heap[j]?=w.heap[j]?)/\(w.setCell ⟨B,k,none⟩ v).heap.size=w.heap.size:=by
 rw[Go.Sort.setCell_eq];refine⟨?_,λj hj=>?_,by simp[Go.Sort.mapBlock]⟩
 ·simp[Go.Sort.mapBlock,J6,hw,Go.Sort.onCells]
 ·simp[Go.Sort.mapBlock,J6,c5 hj]
theorem yv.Ad (h:yv P E w0 I0 a u w I) {i B k:Nat} {cs:List AV} {v:Value} (ha:a i=some (.cells cs)) (hB:I.ar i=some B) (hc:cs[k]?=some (.fl v)):w.cell? ⟨B,k,none⟩=some v/\w.frozen? ⟨B,k,none⟩=false:=by
 obtain⟨B',cZ,cur,T,hw,dh,hr⟩:=h.aO.obj i _ ha;rw[hB]at cZ;cases cZ;have hk:k<cur.size:=by rw[dh];exact (aV.1 hc).1
 have h1:=bR (hr k _ hc);simp only[jI,sW hk,dB]at h1;exact⟨by simp only[World.cell?,hw];simp[hk,h1],by simp[World.frozen?,hw]⟩
theorem yv.Pu (h:yv P E w0 I0 a u w I) (jX:∀j,E.ro j=none) {i B k:Nat} {cs:List AV} (ha:a i=some (.cells cs)) (hB:I.ar i=some B) (hk:k<cs.length) (v:Value) (hv:One v):yv P E w0 I0 (bF a i (some (.cells (cs.set k (.fl v))))) u (w.setCell ⟨B,k,none⟩ v) I:=by
 obtain⟨B',cZ,cur,T,hw,dh,hr⟩:=h.aO.obj i _ ha;rw[hB]at cZ;cases cZ;obtain⟨q1,q2,q3⟩:=yw (k:=k) hw v;have FM:Shape w (w.setCell ⟨B,k,none⟩ v) B:=λc t fr hc=>by rw[hw]at hc;cases hc;exact ⟨_,q1,by simp⟩
 refine h.xZ jX (by rw[ha];simp) hB rfl rfl rfl (by omega) (λj _ hj=>q2 j hj) FM ⟨_,T,q1,by simp[dh],λj c hc=>?_⟩;have dA:(Yc a u).a i≠none:=by show a i≠none;rw[ha];simp
 obtain⟨_,_,q5,_,_⟩:=h.aO.own i B dA hB;have G:cH w (w.setCell ⟨B,k,none⟩ v) I I:=.world (λp x hp hx=>by rw[ct (q2 p.block (q5 p hp))];exact hx) λB' fE t fr hc=>by
  by_cases e:B'=B
  ·subst e;exact FM fE t fr hc
  ·exact ⟨fE,(q2 B' e).trans hc,rfl⟩
 by_cases e:j=k
 ·subst e;rw[Ot hk]at hc;cases hc;have:j<cur.size:=by rw[dh];exact hk
  simp only[jI,Array.getElem?_setIfInBounds_self_of_lt this,dB];exact .fl v hv
 ·rw[JL (c5 e)]at hc;have:=hr j c hc;simp only[jI]at this⊢;rw[JC (c5 e)];exact this.mono G
theorem yv.Yd (h:yv P E w0 I0 a u w I) {i B:Nat} {cs:List AV} (ha:a i=some (.cells cs)) (hB:I.ar i=some B) (k:Nat) (v:Value):cH w (w.setCell ⟨B,k,none⟩ v) I I:=by
 obtain⟨B',cZ,cur,T,hw,dh,hr⟩:=h.aO.obj i _ ha;rw[hB]at cZ;cases cZ;obtain⟨q1,q2,q3⟩:=yw (k:=k) hw v;have dA:(Yc a u).a i≠none:=by show a i≠none;rw[ha];simp
 obtain⟨_,_,q5,_,_⟩:=h.aO.own i B dA hB;exact .world (λp x hp hx=>by rw[ct (q2 p.block (q5 p hp))];exact hx) λB' fE t fr hc=>by
  by_cases e:B'=B
  ·subst e;rw[hw]at hc;cases hc;exact ⟨_,q1,by simp⟩
  ·exact ⟨fE,(q2 B' e).trans hc,rfl⟩
theorem yv.drew (h:yv P E w0 I0 a u w I):yv P E w0 I0 a u w.drew I:=aC.grow h rfl rfl rfl (aP _) λ_ _=>rfl
end
end Go.Ev
namespace Go.X
open Go Go.Ev
section
variable{U:cm}{T:da U.C}{h:U.C 0}{A:Nat->Option Ob}{V:Nat->Bool}
theorem fa.aeU (hH:fa T full h A V) {k:Nat} (hk:k<U.nk) {t:Ty} {l:List (den U.C t)} (hg:vQ U (.obj t) k h=some l) {i:Nat} {x:den U.C t} (hx:l[i]?=some x):A (dk k i)=some (.cells (enc T t x).cells):=by have:=hH.at hk rfl hg i;have bV:(l:List (zu U.C (.obj t)))[i]?=some x:=hx;rw[bV]at this;exact Aw this
theorem fa.abJ (L:Lawful U T) (hH:fa T full h A V) {k:Nat} (hk:k<U.nk) {t:Ty} {l:List (den U.C t)} (hg:vQ U (.obj t) k h=some l) {i:Nat} {x y:den U.C t} (hx:l[i]?=some x) {h':U.C 0} (hs:BZ U (.obj t) k h (l.set i y)=some h'):fa T full h' (bF A (dk k i) (some (.cells (enc T t y).cells))) V:=fa.xZ L hH hk rfl (a:=.obj t) (l:=l) hg (aV.1 hx).1 (x:=y) hs
end
end Go.X
