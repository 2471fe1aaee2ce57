import Derived.Test.YtedadjfbbpjaiaaGreatZ13
set_option linter.all false
namespace Go.Ev
open Go
mutual
def AV.G0:AV->Bool
 |.fl _=>true|.sl xs=>wC xs
 |.ref cs=>wC cs|.fn _ cs=>wC cs
 |.agg cs=>wC cs|.mI _ v=>v.G0
 |.ptr _ _=>false|.view _ _ _=>false
 |.mp _=>false|.emp=>true
 |.nz _ cs=>wC cs
def wC:List AV->Bool
 |[]=>true|x::l=>x.G0&&wC l
end
theorem pw:∀{l:List AV},wC l=true->∀x∈l,x.G0=true
 |[],_,x,hx=>by cases hx
 |y::l,h,x,hx=>by
  simp only[wC,aD]at h;rcases c6.1 hx with rfl|hx
  ·exact h.1
  ·exact pw h.2 x hx
theorem yu:∀{l:List AV},(∀x∈l,x.G0=true)->wC l=true
 |[],_=>rfl|y::l,h=>by simp only[wC,aD];exact ⟨h y (by simp),yu λx hx=>h x (by simp[hx])⟩
theorem Ac{x:AV}(h:x.G0=true):∀c∈x.cells,c.G0=true:=λc hc=>by
 cases x with
 |agg cs=>exact pw h c hc|_=>simp[AV.cells]at hc;subst hc;exact h
theorem cj.IY {w:World} {I I':Cells} (hm:∀p,I p->I' p) {v:Value} {a:AV} (h:cj w I v a):a.G0=true->cj w I' v a:=by
 induction h with
 |fl v h=>exact λ_=>.fl v h|fJ c=>exact λ_=>.fJ c
 |sl a n cap sz xs cv hn gy iE dh hc hI hr ih=>exactλhd=>.sl a n cap sz xs cv hn gy iE dh hc (λi j x c h1 h2=>hm _ (hI i j x c h1 h2)) λi j x c h1 h2=>ih i j x c h1 h2 (Ac (pw hd x (bC h1)) c (bC h2))|ref p cs cv hc hI hr ih=>exact λhd=>.ref p cs cv hc (λj c h=>hm _ (hI j c h)) λj c h=>ih j c h (pw hd c (bC h))
 |fn f vs caps hl hr ih=>exact λhd=>.fn f vs caps hl λj c h=>ih j c h (pw hd c (bC h))|agg vs cs hl hr ih=>exact λhd=>.agg vs cs hl λj c h=>ih j c h (pw hd c (bC h))
 |mI t v x hr ih=>exact λhd=>.mI t v x (ih hd)|ptr i off B h=>exact λhd=>(by cases hd)
 |view i sz len B cap e cur A h hw hs hl hA=>exact λhd=>(by cases hd)
 |qv i sz A cap h=>exact λhd=>(by cases hd)
 |mp i B h=>exact λhd=>(by cases hd)
 |emp A=>exact λ_=>.emp A|nz f vs first hl hr ih=>exact λhd=>.nz f vs first hl λj c h=>ih j c h (pw hd c (bC h))
def RV.G0:RV->Prop
 |.v x=>x.G0=true|.own _ xs=>∀x∈xs,x.G0=true
theorem lM.IY {P:Program} {E E':Env} {w:World} {I I':Cells} (hm:∀p,I p↔I' p) (hf:∀B,¬E.bN w B->¬E'.bN w B) {base base':Nat->Prop} (hb:∀B,base B->base' B) {bo:Option Nat} {v:Value} {r:RV} (h:lM P E w I base bo v r) (hd:r.G0):lM P E' w I' base' bo v r:=by
 cases r with
 |v x=>exact cj.IY (λp=>(hm p).1) h hd|own e xs=>
  obtain⟨h1,h2,h3,h4⟩:=h;refine⟨h1,h2,h3,?_⟩;cases bo with
  |none=>exact h4|some B=>obtain⟨q1,q2,q3,q4,cur,cap,q5,q6,q7,q8,q9,q10⟩:=h4;exact⟨hb B q1,q2,λp hp=>q3 p ((hm p).2 hp),hf B q4,cur,cap,q5,q6,q7,q8,q9,λi j x c hx hc=>cj.IY (λp=>(hm p).1) (q10 i j x c hx hc) (Ac (hd x (bC hx)) c (bC hc))⟩
theorem jr.IY {P:Program} {E E':Env} {w:World} {I I':Cells} (hm:∀p,I p↔I' p) (hf:∀B,¬E.bN w B->¬E'.bN w B) {base base':Nat->Prop} (hb:∀B,base B->base' B) {bo:Nat->Option Nat} {v:Value}:∀{rs:List RV},jr P E w I base bo v rs->(∀r∈rs,r.G0)->jr P E' w I' base' bo v rs
 |[],⟨vs,h1,h2,h3⟩,hd=>⟨vs,h1,h2,λj r hj=>(h3 j r hj).IY hm hf hb (hd r (bC hj))⟩|[r],h,hd=>lM.IY hm hf hb h (hd r (by simp))
 |r::r'::rs,⟨vs,h1,h2,h3⟩,hd=>⟨vs,h1,h2,λj r hj=>(h3 j r hj).IY hm hf hb (hd r (bC hj))⟩
theorem G1{P:Program}{E:Env}{f:FuncId}{args:List AV}{rs:List RV}{A':Nat->Option Ob}{V':Nat->Bool}(h:nE P E f args sY (λ_=>false) (.ret rs) A' V')(dg:∀a∈args,a.G0=true)(rP:∀r∈rs,r.G0):oI P E f args (.ret rs):=by
 refine⟨h.1,λw0 I0 vs hinv hI dH=>?_⟩;have pW:∀B,¬(E.cx sY ⟨I0.mem,λ_=>none⟩).BK B:=λB hB=>by obtain ⟨i,hi,_⟩:=Env.eE.1 hB;exact hi rfl
 refine(h.2 w0 ⟨I0.mem,λ_=>none⟩ vs hinv hI ⟨λi x h=>(by cases h),λi j B h=>(h rfl).elim,λi B h=>(h rfl).elim,λi _=>rfl,λi x h=>(by cases h)⟩ ⟨dH.1,λj v a hv ha=>cj.IY (I:=I0) (I':=⟨I0.mem,λ_=>none⟩) (λ_ h=>h) (dH.2 j v a hv ha) (dg a (bC ha))⟩).mono λe w he=>?_;obtain⟨v,I,bo,rfl,hs,hr,Ax,dZ,_⟩:=he;have hfr:∀B,(E.cx sY ⟨I0.mem,λ_=>none⟩).fresh w0 B->E.plain.fresh w0 B:=λB h=>h.imp id λh=>(pW B h).elim;refine⟨v,⟨I.mem,I0.ar⟩,bo,rfl,⟨hs.os,hs.tape,hs.output,hs.size,λk hk hf _=>hs.block k hk hf (pW k),hs.bN,hs.inv,hs.more,λ_ _ h=>h,λ_=>rfl,hs.shape,λp hp=>(hs.new p hp).imp id (hfr _),hs.lt,hs.off⟩,jr.IY (E:=E.cx sY ⟨I0.mem,λ_=>none⟩) (E':=E.plain) (I:=I) (I':=⟨I.mem,I0.ar⟩) (λ_=>Iff.rfl) (λ_ h=>h) hfr hr rP,Ax,λj B h=>hfr _ (dZ j B h),nQ.none λ_=>rfl⟩
end Go.Ev
namespace Go.X
open Go Go.Ev
section
variable{P:Program}{E:Env}{U:cm}{T:da U.C}
theorem NQ{f:FuncId}{ps:List Ty}{rs:List RK}{run:HL U.C ps->U.C 0->Option (HL U.C (rs.map RK.ty)×U.C 0)}(mK:pn P E T f ps rs none (.st run)){h0:U.C 0}(h0e:∀k,k<U.nk->U.get k h0=[])
  (dg:∀x aX,fA P E T ps x aX->∀a∈aX,a.G0=true) (lu:∀y,∀r∈cB T rs y,r.G0):pn P E T f ps rs none (.pure λx=>(run x h0).map Prod.fst):=λx aX r ha hr=>by
 cases hq:run x h0 with
 |none=>simp only[hq,jW]at hr;cases hr
 |some q=>obtain⟨y,h'⟩:=q;simp only[hq,bQ]at hr;cases hr;obtain⟨A',V',_,hD⟩:=mK x h0 aX y h' sY (λ_=>false) ha (λk hk _ i=>by rw[h0e k hk];exact ⟨rfl,rfl⟩) hq;exact G1 hD (dg x aX ha) (lu y)
end
end Go.X
