import Derived.Test.YtlacgaedkjhfhaaGreatDoorZC8
set_option linter.all false
open Option renaming some->O,none->Y
open Bool renaming true->W,false->F
namespace Go.Ev
open Go
mutual
def AV.Dl:AV->tl
 |.fl _=>W|.sl xs=>ua xs
 |.ref cs=>ua cs|.fn _ cs=>ua cs
 |.agg cs=>ua cs|.mQ _ v=>v.Dl
 |.ptr _ _=>F|.view _ _ _=>F
 |.mp _=>F|.gx=>W
 |.lT _ cs=>ua cs
def ua:Z AV->tl
 |[]=>W|x::l=>x.Dl&&ua l
end
def nB:∀{l:Z AV},ua l=W->∀x∈l,x.Dl=W
 |[],_,x,a=>by cases a
 |y::l,h,x,a=>by
  simp only[ua,aI]at h;rcases cT.1 a with rfl|a
  .exact h.1
  .exact nB h.2 x a
def vW:∀{l:Z AV},(∀x∈l,x.Dl=W)->ua l=W
 |[],_=>rfl|y::l,h=>by simp only[ua,aI];exact ⟨h y aE,vW λx a=>h x (by simp[a])⟩
def xz{x:AV}(h:x.Dl=W):∀c∈x.cells,c.Dl=W:=λc a=>by
 cases x with
 |agg cs=>exact nB h c a|_=>simp[AV.cells]at a;subst a;exact h
def cq.Gw {w:zI} {I I':aD} (s:∀p,I p->I' p) {v:Jz} {a:AV} (h:cq w I v a):a.Dl=W->cq w I' v a:=by
 induction h with
 |fl v h=>exact λ_=>.fl v h|eU c=>exact λ_=>.eU c
 |sl a n cap sz xs o u y z C q r k d=>exactλb=>.sl a n cap sz xs o u y z C q (λi j x c l m=>s _ (r i j x c l m)) λi j x c l m=>d i j x c l m (xz (nB b x (bF l)) c (bF m))|ref p cs o q r k d=>exact λb=>.ref p cs o q (λj c h=>s _ (r j c h)) λj c h=>d j c h (nB b c (bF h))
 |fn f vs caps g k d=>exact λb=>.fn f vs caps g λj c h=>d j c h (nB b c (bF h))|agg vs cs g k d=>exact λb=>.agg vs cs g λj c h=>d j c h (nB b c (bF h))
 |mQ t v x k d=>exact λb=>.mQ t v x (d b)|ptr i off B h=>exact λb=>(by cases b)
 |view i sz len B cap e cur A h D E g G=>exact λb=>(by cases b)
 |kV i sz A cap h _=>exact λb=>(by cases b)
 |mp i B h=>exact λb=>(by cases b)
 |gx A=>exact λ_=>.gx A|lT f vs first g k d=>exact λb=>.lT f vs first g λj c h=>d j c h (nB b c (bF h))
def RV.Dl:RV->Prop
 |.v x=>x.Dl=W|.bU _ xs=>∀x∈xs,x.Dl=W
def ml.Gw {P:qK} {E E':cm} {w:zI} {I I':aD} (a:∀p,I p↔I' p) (l:∀B,¬E.cB w B->¬E'.cB w B) {base b:Nat->Prop} (m:∀B,base B->b B) {bo:V Nat} {v:Jz} {r:RV} (h:ml P E w I base bo v r) (d:r.Dl):ml P E' w I' b bo v r:=by
 cases r with
 |v x=>exact cq.Gw (λp=>(a p).1) h d|bU e xs=>
  obtain⟨n,o,q,f⟩:=h;refine⟨n,o,q,?_⟩;cases bo with
  |none=>exact f|some B=>obtain⟨q1,s,t,u,cur,cap,y,z,A,C,D,G⟩:=f;exact⟨m B q1,s,λp H=>t p ((a p).2 H),l B u,cur,cap,y,z,A,C,D,λi j x c g k=>cq.Gw (λp=>(a p).1) (G i j x c g k) (xz (d x (bF g)) c (bF k))⟩
def nj.Gw {P:qK} {E E':cm} {w:zI} {I I':aD} (c:∀p,I p↔I' p) (d:∀B,¬E.cB w B->¬E'.cB w B) {base i:Nat->Prop} (e:∀B,base B->i B) {bo:Nat->V Nat} {v:Jz}:∀{rs:Z RV},nj P E w I base bo v rs->(∀r∈rs,r.Dl)->nj P E' w I' i bo v rs
 |[],⟨vs,h1,f,g⟩,a=>⟨vs,h1,f,λj r b=>(g j r b).Gw c d e (a r (bF b))⟩|[r],h,a=>ml.Gw c d e h (a r aE)
 |r::k::rs,⟨vs,h1,f,g⟩,a=>⟨vs,h1,f,λj r b=>(g j r b).Gw c d e (a r (bF b))⟩
def xA{P:qK}{E:cm}{f:JC}{args:Z AV}{rs:Z RV}{l:Nat->V Ob}{m:Nat->tl}(h:np P E f args qH (λ_=>F) (.ret rs) l m)(n:∀a∈args,a.Dl=W)(o:∀r∈rs,r.Dl):nm P E f args (.ret rs):=by
 refine⟨h.1,λw0 I0 vs q s c=>?_⟩;have d:∀B,¬(E.dn qH ⟨I0.mem,λ_=>Y⟩).JT B:=λB t=>by obtain ⟨i,hi,_⟩:=cm.gI.1 t;exact hi rfl
 refine(h.2 w0 ⟨I0.mem,λ_=>Y⟩ vs q s ⟨λi x h=>(by cases h),λi j B h=>(h rfl).elim,λi B h=>(h rfl).elim,λi _=>rfl,λi x h=>(by cases h)⟩ ⟨c.1,λj v a hv g=>cq.Gw (I:=I0) (I':=⟨I0.mem,λ_=>Y⟩) (λ_ h=>h) (c.2 j v a hv g) (n a (bF g))⟩).mono λe w u=>?_;obtain⟨v,I,bo,rfl,hs,y,z,A,_⟩:=u;have b:∀B,(E.dn qH ⟨I0.mem,λ_=>Y⟩).fresh w0 B->E.plain.fresh w0 B:=λB h=>h.imp id λh=>(d B h).elim;refine⟨v,⟨I.mem,I0.ar⟩,bo,rfl,⟨hs.os,hs.tape,hs.output,hs.size,λk C D _=>hs.block k C D (d k),hs.cB,hs.h5,hs.qG,λ_ _ h=>h,λ_=>rfl,hs.iq,λp G=>(hs.new p G).imp id (b _),hs.lt,hs.off⟩,nj.Gw (E:=E.dn qH ⟨I0.mem,λ_=>Y⟩) (E':=E.plain) (I:=I) (I':=⟨I.mem,I0.ar⟩) (λ_=>Iff.rfl) (λ_ h=>h) b y o,z,λj B h=>b _ (A j B h),my.none λ_=>rfl⟩
end Go.Ev
namespace Go.X
open Go Go.Ev
section
variable{P:qK}{E:cm}{U:cg}{T:dm U.C}
def K9{f:JC}{ps:Z Ty}{rs:Z RK}{d:HL U.C ps->U.C 0->V (HL U.C (rs.map RK.ty)×U.C 0)}(h:nY P E T f ps rs Y (.st d)){h0:U.C 0}(j:∀k,k<U.nk->U.get k h0=[])
  (l:∀x b,fy P E T ps x b->∀a∈b,a.Dl=W) (m:∀y,∀r∈cL T rs y,r.Dl):nY P E T f ps rs Y (.pure λx=>(d x h0).map Prod.fst):=λx b r g c=>by
 cases e:d x h0 with
 |none=>simp only[e,iE]at c;cases c
 |some q=>obtain⟨y,h'⟩:=q;simp only[e,cj]at c;cases c;obtain⟨p,s,_,n⟩:=h x h0 b y h' qH (λ_=>F) g (λk o _ i=>by rw[j k o];exact ⟨rfl,rfl⟩) e;exact xA n (l x b g) (m y)
end
end Go.X
