import Derived.Test.YticakdhfjeljkaaGreatDoorZ9
set_option linter.all false
set_option maxRecDepth 20000
open Option renaming some->O,none->Y
open Bool renaming true->W,false->F
namespace Go.Ev
open Go
mutual
def AV.zN:AV->aa
 |.fl _=>W|.sl xs=>sk xs
 |.ref cs=>sk cs|.fn _ cs=>sk cs
 |.agg cs=>sk cs|.mR _ v=>v.zN
 |.ptr _ _=>F|.view _ _ _=>F
 |.mp _=>F|.hk=>W
 |.mc _ cs=>sk cs
def sk:Z AV->aa
 |[]=>W|x::l=>x.zN&&sk l
end
def lm:∀{l:Z AV},sk l=W->∀x∈l,x.zN=W
 |[],_,x,a=>by cases a
 |y::l,h,x,a=>by
  simp only[sk,aP]at h;rcases fb.1 a with rfl|a
  .exact h.1
  .exact lm h.2 x a
def pk:∀{l:Z AV},(∀x∈l,x.zN=W)->sk l=W
 |[],_=>rfl|y::l,h=>by simp only[sk,aP];exact ⟨h y aH,pk λx a=>h x (by simp[a])⟩
def yz{x:AV}(h:x.zN=W):∀c∈x.cells,c.zN=W:=λc a=>by
 cases x with
 |agg cs=>exact lm h c a|_=>simp[AV.cells]at a;subst a;exact h
def cy.Ia {w:af} {I I':aA} (s:∀p,I p->I' p) {v:ag} {a:AV} (h:cy w I v a):a.zN=W->cy w I' v a:=by
 induction h with
 |fl v h=>exact λ_=>.fl v h|fc c=>exact λ_=>.fc c
 |sl a n cap sz xs o u y z hsz q r k d=>exactλb=>.sl a n cap sz xs o u y z hsz q (λi j x c l m=>s _ (r i j x c l m)) λi j x c l m=>d i j x c l m (yz (lm b x (bW l)) c (bW m))|ref p cs o q r k d=>exact λb=>.ref p cs o q (λj c h=>s _ (r j c h)) λj c h=>d j c h (lm b c (bW h))
 |fn f vs caps g k d=>exact λb=>.fn f vs caps g λj c h=>d j c h (lm b c (bW h))|agg vs cs g k d=>exact λb=>.agg vs cs g λj c h=>d j c h (lm b c (bW h))
 |mR t v x k d=>exact λb=>.mR t v x (d b)|ptr i off B h=>exact λb=>(by cases b)
 |view i sz len B cap e cur A h C D g E=>exact λb=>(by cases b)
 |lE i sz A cap h _=>exact λb=>(by cases b)
 |mp i B h=>exact λb=>(by cases b)
 |hk A=>exact λ_=>.hk A|mc f vs first g k d=>exact λb=>.mc f vs first g λj c h=>d j c h (lm b c (bW h))
def RV.zN:RV->Prop
 |.v x=>x.zN=W|.bR _ xs=>∀x∈xs,x.zN=W
def nq.Ia {P:ai} {E E':cd} {w:af} {I I':aA} (a:∀p,I p↔I' p) (l:∀B,¬E.cf w B->¬E'.cf w B) {base b:Nat->Prop} (m:∀B,base B->b B) {bo:V Nat} {v:ag} {r:RV} (h:nq P E w I base bo v r) (d:r.zN):nq P E' w I' b bo v r:=by
 cases r with
 |v x=>exact cy.Ia (λp=>(a p).1) h d|bR e xs=>
  obtain⟨n,o,q,f⟩:=h;refine⟨n,o,q,?_⟩;cases bo with
  |none=>exact f|some B=>obtain⟨q1,s,t,u,cur,cap,y,z,A,C,D,G⟩:=f;exact⟨m B q1,s,λp H=>t p ((a p).2 H),l B u,cur,cap,y,z,A,C,D,λi j x c g k=>cy.Ia (λp=>(a p).1) (G i j x c g k) (yz (d x (bW g)) c (bW k))⟩
def ou.Ia {P:ai} {E E':cd} {w:af} {I I':aA} (c:∀p,I p↔I' p) (d:∀B,¬E.cf w B->¬E'.cf w B) {base k:Nat->Prop} (e:∀B,base B->k B) {bo:Nat->V Nat} {v:ag}:∀{rs:Z RV},ou P E w I base bo v rs->(∀r∈rs,r.zN)->ou P E' w I' k bo v rs
 |[],⟨vs,f,g,i⟩,a=>⟨vs,f,g,λj r b=>(i j r b).Ia c d e (a r (bW b))⟩|[r],h,a=>nq.Ia c d e h (a r aH)
 |r::l::rs,⟨vs,f,g,i⟩,a=>⟨vs,f,g,λj r b=>(i j r b).Ia c d e (a r (bW b))⟩
def FW{P:ai}{E:cd}{f:bH}{args:Z AV}{rs:Z RV}{l:Nat->V Ob}{m:Nat->aa}(h:ov P E f args tp (λ_=>F) (.ret rs) l m)(n:∀a∈args,a.zN=W)(o:∀r∈rs,r.zN):tq P E f args (.ret rs):=by
 refine⟨h.1,λw0 I0 vs q s c=>?_⟩;have d:∀B,¬(E.bX tp ⟨I0.mem,λ_=>Y⟩).LC B:=λB t=>by obtain ⟨i,hi,_⟩:=cd.hU.1 t;exact hi rfl
 refine(h.2 w0 ⟨I0.mem,λ_=>Y⟩ vs q s ⟨λi x h=>(by cases h),λi j B h=>(h rfl).elim,λi B h=>(h rfl).elim,λi _=>rfl,λi x h=>(by cases h)⟩ ⟨c.1,λj v a hv g=>cy.Ia (I:=I0) (I':=⟨I0.mem,λ_=>Y⟩) (λ_ h=>h) (c.2 j v a hv g) (n a (bW g))⟩).mono λe w u=>?_;obtain⟨v,I,bo,rfl,hs,y,z,A,_⟩:=u;have b:∀B,(E.bX tp ⟨I0.mem,λ_=>Y⟩).fresh w0 B->E.plain.fresh w0 B:=λB h=>h.imp id λh=>(d B h).elim;refine⟨v,⟨I.mem,I0.ar⟩,bo,rfl,⟨hs.os,hs.tape,hs.output,hs.size,λk C D _=>hs.block k C D (d k),hs.cf,hs.hS,hs.oO,λ_ _ h=>h,λ_=>rfl,hs.shape,λp G=>(hs.new p G).imp id (b _),hs.lt,hs.off⟩,ou.Ia (E:=E.bX tp ⟨I0.mem,λ_=>Y⟩) (E':=E.plain) (I:=I) (I':=⟨I.mem,I0.ar⟩) (λ_=>Iff.rfl) (λ_ h=>h) b y o,z,λj B h=>b _ (A j B h),mX.none λ_=>rfl⟩
end Go.Ev
namespace Go.X
open Go Go.Ev
section
variable{P:ai}{E:cd}{U:cp}{T:dt U.C}
def Dl{f:bH}{ps:Z Ty}{rs:Z RK}{d:HL U.C ps->U.C 0->V (HL U.C (rs.map RK.ty)×U.C 0)}(h:nu P E T f ps rs Y (.st d)){h0:U.C 0}(j:∀k,k<U.nk->U.get k h0=[])
  (l:∀x b,gf P E T ps x b->∀a∈b,a.zN=W) (m:∀y,∀r∈db T rs y,r.zN):nu P E T f ps rs Y (.pure λx=>(d x h0).map Prod.fst):=λx b r g c=>by
 cases e:d x h0 with
 |none=>simp only[e,jr]at c;cases c
 |some q=>obtain⟨y,n⟩:=q;simp only[e,dr]at c;cases c;obtain⟨s,t,_,o⟩:=h x h0 b y n tp (λ_=>F) g (λk p _ i=>by rw[j k p];exact ⟨rfl,rfl⟩) e;exact FW o (l x b g) (m y)
end
end Go.X
