import Derived.MapKept
import Derived.Test.YticakdhfjeljkaaGreatDoorZ2
set_option linter.all false
open Option renaming some->O,none->Y
open Bool renaming true->W,false->F
namespace Go.Ev
open Go
variable{t e t':an}{i d gg len n off j id k d' sz:Nat}{K:cH->Prop}{xs args:Z AV}{b:aa}{c:bT}{fn:Func}{op:iS}{out:PF}{a':Nat->V Ob}{u':Nat->aa}{s:St}{listed:Array aa}{a:Act}{r:cH}{E:cd}{w0:af}{I0:aA}{y:ah}{f:bH}{P:ai}{X:AV->St->Prop}{be:Nat->V Nat}{ops:Array aC}{ob:V Nat}{vs:Array ag}{g:Nat->Nat}{lo hi mx:V ah}{α:Type}
def Yd:AV->cH
 |.sl []=>.bF []|v=>.val v
theorem Ja{v:ag}(h:v.oneCell'=W):cB v=Yd (dV v):=by
 cases v<;>first
  |rfl
  |(simp[Value.oneCell']at h;done)
  |(rename_i A l c
    cases A<;>cases l<;>cases c<;>rfl)
section
variable{P:ai}{E:cd}{w0:af}{I0:aA}{n:Nat}{o:aC}{s:St}
theorem Et(a:P.underlying t=O (.slice e))(A:V bY)(n c:Nat)(w:af):(Op.equal t (.slice A n c) (.slice Y 0 0)).run P w=.ok A.isNone w:=by
 have h:∀d:Nat,(Op.equalIn (d+1) t (.slice A n c) (.slice Y 0 0)).run P w=.ok A.isNone w:=λd=>by cases A<;>simp[Op.equalIn,eH a]
 exact h 9999
theorem Jb{x:ah}(b:o.op=.panic x)(e:ba n o=W){K:St->Prop}{v:AV}(f:s.ev x=.val (.mR t v))(g:X (.mR t v) s):jS P E w0 I0 n o s K X:=by
 rintro a w ⟨I,be,c⟩ l h;have d:=aM e (x:=x) (by simp[b,Op.operands]) c;rw[f]at d;have i:cy w I (a.eval x) (.mR t v):=d;unfold Oper.wp;generalize hv:a.eval x=u at*;cases i with
 |mR t u y j=>
  have k:(execOp a.eval o).run P w=.halt (.panic (.iface t u)) w:=by simp[execOp,b,hv,Instr.panic]
  rw[k];exact h _ _ s a w I be g c (.mR t u _ j)
inductive e7 where
 |normal
 |exit (id:Nat)
 |goto (l:Nat)
 |ret
def xL(P:ai)(E:cd)(w0:af)(I0:aA)(n:Nat)(Q:e7->St->Prop)(X:AV->St->Prop):Exit->Act->af->Prop
 |.normal,a,w=>∃s,ko P E w0 I0 n s a w/\Q .normal s|.exit id,a,w=>∃s,ko P E w0 I0 n s a w/\Q (.exit id) s
 |.goto l,a,w=>∃s,ko P E w0 I0 n s a w/\Q (.goto l) s|.ret,a,w=>∃s,ko P E w0 I0 n s a w/\Q .ret s
 |.panic b,a,w=>∃x v s I be,b=[{v:=v,recovered:=F}]/\X x s/\aJ P E w0 I0 n s a w I be/\cy w I v x|.outgrown,_,_=>False
def nC(P:ai)(E:cd)(w0:af)(I0:aA)(n:Nat)(c:bT)(Q:e7->St->Prop)(X:AV->St->Prop)(s:St):Prop:=∀a w,ko P E w0 I0 n s a w->c.wp P (xL P E w0 I0 n Q X) a w
def uw(s:St)(t:Nat)(a:aa):V aa:=
 match s.r t with
 |.val (.fl (.bool b))=>O (b==a)|.gw _=>O F
 |_=>Y
theorem ux{w:af}{I:aA}(f:aJ P E w0 I0 n s a w I be){t:Nat}{g:aa}(h:t<n)(k:(ops[j]?).bind (·.dst)=O t)(d:uw s t g=O b):(yielded ops a.tmps j==O g)=b:=by
 have i:t<a.tmps.size:=by rw[f.size];exact h
 have c:=f.ct t h;have l:a.tmps.getD t undef=a.tmps[t]:=by simp[i]
 rw[l]at c;unfold uw at d;unfold yielded;rw[k,aE,Rn i];split at d
 .rename_i b' e;rw[e]at c;rw[bV c];simp_all
 .rename_i rs e;rw[e]at c;obtain⟨vs,hv,_⟩:=c
  grind
 .cases d
def ju(n:Nat)(ops:Array aC):aa:=ops.all λo=>ba n o&&match o.guard with
 |some (j,_)=>match(ops[j]?).bind (·.dst)with
  |some t=>decide (t<n)|none=>W
 |none=>W
variable{Q:e7->St->Prop}{X:AV->St->Prop}
def e7.then (next:St->Prop) (Q:e7->St->Prop):e7->St->Prop
 |.normal,s=>next s|e,s=>Q e s
theorem vP{x y:bT}(h:∀K:St->Prop,(∀s,nC P E w0 I0 n y Q X s->K s)->nC P E w0 I0 n x (e7.then K Q) X s):nC P E w0 I0 n (.seq x y) Q X s:=by
 intro a w c;refine kT (pB (h _ (λ_ h=>h) a w c) λe a' w' b=>?_);cases e with
 |normal=>obtain ⟨s',d,f⟩:=b;exact f a' w' d|exit id=>exact b
 |goto l=>exact b|ret=>exact b
 |panic g=>exact b|outgrown=>exact b
theorem RF(h:Q .normal s):nC P E w0 I0 n .skip Q X s:=λa w b=>wp_skip ⟨s,b,h⟩
theorem PI{l:Nat}(h:Q .normal s):nC P E w0 I0 n (.label l) Q X s:=λa w b=>wp_label ⟨s,b,h⟩
theorem RG(h:Q (.exit id) s):nC P E w0 I0 n (.exit id) Q X s:=λa w b=>wp_exit ⟨s,b,h⟩
theorem VD(h:Q .ret s):nC P E w0 I0 n .ret Q X s:=λa w b=>wp_ret ⟨s,b,h⟩
theorem RH{c:ah}{x y:bT}(e:ca c=W/\∀t,c=.tmp t->t<n)(g:s.ev c=.val (.fl (.bool b)))(i:b=W->nC P E w0 I0 n x Q X s)(j:b=F->nC P E w0 I0 n y Q X s):nC P E w0 I0 n (.cond c x y) Q X s:=by rintro a w ⟨I,be,d⟩;have f:=d.ev c e.1 e.2;rw[g]at f;exact wp_cond_split (bV f) (λh=>i h a w ⟨I,be,d⟩) (λh=>j h a w ⟨I,be,d⟩)
def e7.inBlock (id:Nat) (Q:e7->St->Prop):e7->St->Prop
 |.exit a,s=>if a=id then Q .normal s else Q (.exit a) s|e,s=>Q e s
@[simp] theorem e7.vQ (id a:Nat):e7.inBlock id Q (.exit a) s=if a=id then Q .normal s else Q (.exit a) s:=rfl
theorem PJ(h:nC P E w0 I0 n c (e7.inBlock id Q) X s):nC P E w0 I0 n (.block id c) Q X s:=by
 intro a w i;refine wp_block (pB (h a w i) λe a' w' b=>?_);cases e with
 |normal=>exact b|exit j=>
  obtain⟨s',g,d⟩:=b;simp only[e7.vQ]at d;simp only[Exit.inBlock];split
  .rename_i f;rw[aq f]at d;exact ⟨s',g,d⟩
  .rename_i f;rw[ao f]at d;exact ⟨s',g,d⟩
 |goto l=>exact b|ret=>exact b
 |panic k=>exact b|outgrown=>exact b
theorem PK{c:bT}(h:nC P E w0 I0 n c (λe s=>match e with|.goto _=>False|e=>Q e s) X s):nC P E w0 I0 n (.scope c) Q X s:=by
 intro a w d;refine wp_scope_straight (pB (h a w d) λe a' w' b=>?_);cases e with
 |normal=>exact b|exit id=>exact b
 |goto l=>obtain ⟨s',f,g⟩:=b;grind|ret=>exact b
 |panic i=>exact b|outgrown=>exact b
theorem Jc(I:Nat->St->Prop)(m:Nat)(h0:I m s)(o:∀m s,I m s->nC P E w0 I0 n c (e7.then (λs'=>∃i,i<m/\I i s') Q) X s):nC P E w0 I0 n (.loop c) Q X s:=by
 intro a w j b k cs;have p:∀m s a w,I m s->ko P E w0 I0 n s a w->
   ∃e a' w',xL P E w0 I0 n Q X e a' w'/\Arrives P (lone (b.at a (.code c::.inLoop c::k)) cs w) b k cs e a' w':=by
  intro m;induction m using Nat.strongRecOn with
  |_ m q=>
   intro s a w r j;obtain⟨e,g,h,d,f⟩:=o m s r a w j b (.inLoop c::k) cs;cases e with
   |normal=>obtain⟨t,u,i,v,y⟩:=d;obtain⟨z,A,B,C,D⟩:=q i v t g h y u;exact⟨z,A,B,C,.of_steps (Steps.trans f (.one step_inLoop)) D⟩|exit id=>exact ⟨.exit id,g,h,d,.pass (x:=.inLoop c) rfl (λ_ _=>.inl aH) f⟩|goto l=>exact ⟨.goto l,g,h,d,.pass (x:=.inLoop c) rfl (λ_ _=>.inl aH) f⟩
   |ret=>exact ⟨.ret,g,h,d,.pass (x:=.inLoop c) rfl (λ_ _=>.inl aH) f⟩|panic G=>exact ⟨.panic G,g,h,d,.pass (x:=.inLoop c) rfl (λ_ _=>.inl aH) f⟩
   |outgrown=>exact d.elim
 obtain⟨e,a',w',d,f⟩:=p m s a w h0 j;exact⟨e,a',w',d,.of_steps (.one step_loop) f⟩
theorem RI{s':St}(h:∀a w,ko P E w0 I0 n s a w->ko P E w0 I0 n s' a w)(b:nC P E w0 I0 n c Q X s'):nC P E w0 I0 n c Q X s:=λa w d=>b a w (h a w d)
end
def entry(args:Z AV):St:={r:=λt=>((args.map cH.val)[t]?).getD .none,b:=λ_=>Y,g:=λ_=>0,a:=tp,u:=mi}
def qy(args:Z AV)(a:Nat->V Ob)(u:Nat->aa):St:={r:=λt=>((args.map cH.val)[t]?).getD .none,b:=λ_=>Y,g:=λ_=>0,a:=a,u:=u}
def tJ(P:ai)(s:St)(ob:V Nat):cH->RV->Prop
 |.val x,.v y=>y=x|.bF xs,.v y=>y=.sl xs
 |.view d gg off len,.v y=>O d≠ob/\gg=s.g d/\∃e xs,s.b d=O (.br e xs)/\y=.sl ((xs.drop off).take len)|.view d gg off len,.bR e ys=>O d=ob/\gg=s.g d/\off=0/\∃xs,s.b d=O (.br e xs)/\ys=xs.take len
 |.bF xs,.bR e ys=>xs=[]/\ys=[]/\0<P.cellsOf e|_,_=>False
def gl:RV->aa
 |.bR _ _=>W|_=>F
def vR(P:ai)(s:St)(t:an)(r:cH)(K:cH->Prop):Prop:=
 match r with
 |.dT d gg sz i k=>match s.b d with
  |some (.cells cs)=>gg=s.g d/\jW P t (cs.drop (i*sz+k)) K|_=>False
 |_=>False
def iJ(P:ai)(n:Nat)(s:St)(ob:V Nat):Z ResultVar->Z RV->Prop
 |[],[]=>True|.tmp t::a,r::rs=>t<n/\tJ P s ob (s.r t) r/\iJ P n s ob a rs
 |.cell c t::a,r::rs=>c<n/\vR P s t (s.r c) (λx=>tJ P s ob x r)/\iJ P n s ob a rs|_,_=>False
def RJ(P:ai)(fn:Func)(out:PF)(a':Nat->V Ob)(u':Nat->aa):e7->St->Prop
 |.normal,s|.ret,s=>
  match out with
  |.ret rs=>(rs.filter gl).length<=1/\(s.df=[]/\s.a=a'/\s.u=u')/\∃ob,iJ P fn.ntmps s ob fn.results.toList rs|.ea _=>False
 |_,_=>False
def NU(out:PF)(a':Nat->V Ob)(u':Nat->aa)(y:AV)(s:St):Prop:=
 match out with
 |.ret _=>False|.ea x=>y=x/\s.df=[]/\s.a=a'/\s.u=u'
abbrev abf(P:ai)(fn:Func)(out:PF):e7->St->Prop:=RJ P fn out tp mi
abbrev aeo(out:PF):AV->St->Prop:=NU out tp mi
section
variable{P:ai}{E:cd}{w0:af}{I0:aA}{n:Nat}{s:St}{a:Act}{w:af}{I:aA}{be:Nat->V Nat}
def pE(I:aA)(s:St)(be:Nat->V Nat)(ob:V Nat):aA:=I.plus λp=>∃d B,O d≠ob/\s.b d≠Y/\be d=O B/\p.block=B
theorem qz(h:aJ P E w0 I0 n s a w I be)(ob:V Nat):ee E w0 I0 w (pE I s be ob):=
 h.since.step (w':=w) (I':=pE I s be ob) rfl rfl rfl (bq _) (λ_=>False) (λ_ _ _=>rfl) (λ_ b=>b.elim) (gZ.refl w) (λ_ h=>.inl h) rfl
  (by
    rintro p (f|⟨d,B,_,c,e,rfl⟩)
    grind
    .obtain ⟨q1,g,i,j⟩:=h.bR d _ c e
     grind)
def rT(be:Nat->V Nat):cH->RV->V Nat
 |.view d _ _ _,.bR _ _=>be d|_,_=>Y
theorem PL(h:aJ P E w0 I0 n s a w I be){v:ag}{b:RV}(l:bU P w I be s.b s.g v r)(f:tJ P s ob r b):nq P E w (pE I s be ob) (E.fresh w0) (rT be r b) v b:=by
 have u:∀{v:ag}{x:AV},cy w I v x->cy w (pE I s be ob) v x:=λh=>h.mono (.plus _ _ _);cases r with
 |val x=>
  cases b with
  |v y=>have e:y=x:=f;subst e;exact u l|bR e ys=>exact f.elim
 |bF xs=>
  cases b with
  |v y=>have e:y=.sl xs:=f;subst e;exact u l.1|bR e ys=>
   obtain⟨rfl,rfl,h0⟩:=f;obtain⟨A,rfl⟩:=l.2;exact⟨h0,aH,λx z=>by simp at z,rfl,A,rfl⟩
 |view d gg off len=>
  cases b with
  |v y=>obtain⟨q,t,e,xs,g,rfl⟩:=f;have K:=h.bD d _ g;exact vG g K (l.2 t) (.plus _ _ _) (λB m p C=>.inr ⟨d,B,q,by simp[g],m,C⟩)|bR e ys=>
   obtain⟨q,t,rfl,xs,g,rfl⟩:=f;obtain⟨D,b0,c0,G⟩:=h.bD d _ g;obtain⟨d0,hv⟩:=mf l t g;have e0:(xs.take len).length=len:=dx;have L:lF P e (xs.take len):=λx z=>by grind [kR,List.mem_of_mem_take]
   refine⟨D,by grind,L,?_⟩;simp only[rT];cases m:be d with
   |none=>grind|some B=>
    simp only[m]at hv G;obtain⟨cur,cap,A,hw,H,e1,f0⟩:=hv;obtain⟨g0,J,o,N,Q,i0,j0⟩:=G;rw[hw]at o;injection o with o;injection o with q1 k0;subst q1;have R:J=cap:=(lJ D (H.symm.trans N)).symm;subst R;obtain⟨o1,o2,o3,S⟩:=h.bR d B (by simp[g]) m;refine⟨o1,o2,?_,S,cur,J,hw,H,Q,by grind,⟨A,by grind,λl0=>by grind⟩,λi j x c hi m0=>?_⟩
    .rintro p (C|⟨d',B',T,U,X,rfl⟩)
     grind
     .intro a0;exact T (by rw[<-q,h.inj d' d B U (by simp[g]) (by rw[X,a0]) m])
    grind
 |none=>cases b<;>exact f.elim
 |dT d gg sz i k=>cases b<;>exact f.elim
 |gw rs=>cases b<;>exact f.elim
theorem BG:∀{rs:Z RV},(rs.filter gl).length<=1->∀(j a:Nat)(r b:RV),rs[j]?=O r->rs[a]?=O b->gl r=W->gl b=W->j=a
 |[],_,j,a,r,b,h,_,_,_=>by simp at h|x::rs,i,j,a,r,b,l,m,c,d=>by
  by_cases n:gl x=W
  .have h0:(rs.filter gl)=[]:=by simp_all
   have o:∀(k:Nat)(y:RV),rs[k]?=O y->gl y=W->False:=λk y e f=>by
    have:y∈rs.filter gl:=List.mem_filter.2 ⟨bW e,f⟩
    grind
   grind
  .have g:(rs.filter gl).length<=1:=by grind
   cases j with
   |zero=>grind|succ j=>cases a with
    |zero=>grind|succ a=>rw[BG g j a r b (by grind) (by grind) c d]
def BH(b:Array ag):ResultVar->Sem ag
 |.tmp t=>pure (b.getD t undef)|.cell a t=>do loadVar t (<-asAddr (b.getD a undef))
theorem nc(h:aJ P E w0 I0 n s a w I be){ob:V Nat}:∀{f:Z ResultVar}{rs:Z RV},iJ P n s ob f rs->
  ∃(vs:Z ag)(xs:Z cH),(f.mapM (BH a.tmps)).run P w=.ok vs w/\vs.length=rs.length/\xs.length=rs.length/\∀(j:Nat)(e:RV),rs[j]?=O e->∃v x,vs[j]?=O v/\xs[j]?=O x/\bU P w I be s.b s.g v x/\tJ P s ob x e
 |[],[],_=>⟨[],[],rfl,rfl,rfl,λj e h=>by simp at h⟩|.tmp t::f,r::rs,g=>by
  obtain⟨l,b,m⟩:=g;obtain⟨vs,xs,g1,g2,g3,u⟩:=nc h m;refine⟨a.tmps.getD t undef::vs,s.r t::xs,?_,by simp[g2],by simp[g3],λj e o=>?_⟩
  grind [BH,cx,cW,cL]
  .cases j with
   |zero=>simp at o;subst o;exact ⟨_,_,rfl,rfl,h.ct t l,b⟩|succ j=>grind
 |.cell c t::f,r::rs,g=>by
  obtain⟨l,b,m⟩:=g;obtain⟨vs,xs,g1,g2,g3,u⟩:=nc h m;unfold vR at b;split at b
  .rename_i d gg sz i k z;split at b
   .rename_i cs p;obtain⟨A,C⟩:=b;obtain⟨y,J,D⟩:=vH C;have q:=h.ct c l;rw[z]at q;obtain⟨B,G,K⟩:=q.2 A (by simp[p]);obtain⟨cur,t',hw,hs,H⟩:=Bl (h.bD d _ p) G (i*sz+k);obtain⟨v,x,L,N,rfl⟩:=rI H D;refine⟨v::vs,x::xs,?_,by simp[g2],by simp[g3],λj e o=>?_⟩
    grind [BH,cx,cW,cL,asAddr]
    grind
   grind
  grind
 |[],_::_,h=>by cases h
 |.tmp _::_,[],h=>by cases h
 |.cell _ _::_,[],h=>by cases h
theorem Jd{a:Array ag}{vs:Z ag}(b:(fn.results.toList.mapM (BH a)).run P w=.ok vs w):(results fn a).run P w=.ok (if h:vs.toArray.size=1 then vs.toArray[0]else .tuple vs.toArray) w:=by
 have e:results fn a=(do
  let vs<-fn.results.mapM (BH a)
  pure (if h:vs.size=1 then vs[0]else .tuple vs)):=rfl
 rw[e,Array.mapM_eq_mapM_toList];simp_all
theorem Je{rs:Z RV}(h:aJ P E w0 I0 fn.ntmps s a w I be)(C:(rs.filter gl).length<=1)(m:iJ P fn.ntmps s ob fn.results.toList rs):
  ∃v,(results fn a.tmps).run P w=.ok v w/\∃bo,(ou P E w (pE I s be ob) (E.fresh w0) bo v rs/\(∀j f B,bo j=O B->bo f=O B->j=f)/\∀j B,bo j=O B->E.fresh w0 B)/\∀j B,bo j=O B->∃d,O d=ob/\s.b d≠Y/\be d=O B:=by
 obtain⟨vs,xs,hm,n,D,t⟩:=nc h m;have u:=Jd hm;let bo:Nat->V Nat:=λj=>match xs[j]?,rs[j]? with
  |some x,O b=>rT be x b|_,_=>Y
 have k:∀(j:Nat)(b:RV),rs[j]?=O b->∃v,vs[j]?=O v/\nq P E w (pE I s be ob) (E.fresh w0) (bo j) v b:=by grind [PL]
 have Bz:∀j f B,bo j=O B->bo f=O B->j=f:=by
  intro j f B i o;have G:∀j,bo j=O B->∃b,rs[j]?=O b/\gl b=W:=by
   intro j c;simp only[bo]at c;split at c
   .rename_i x b p g;refine⟨b,g,?_⟩;cases x<;>cases b<;>simp[rT]at c<;>rfl
   .cases c
  grind [BG]
 have q:∀j B,bo j=O B->∃d,O d=ob/\s.b d≠Y/\be d=O B:=by
  intro j B c;simp only[bo]at c;split at c
  .rename_i x b p g;obtain⟨v,H,hv,l,J,y⟩:=t j b g;rw[p]at l;injection l with l;subst l;cases x<;>cases b<;>simp[rT]at c;rename_i d gg off len e ys;obtain⟨i,_,_,xs,K,_⟩:=y
   grind
  .cases c
 refine⟨_,u,bo,⟨?_,Bz,λj B c=>by obtain⟨d,_,z,A⟩:=q j B c;exact(h.bR d B z A).1⟩,q⟩;have many:rs.length≠1->∃us:Array ag,(if h:vs.toArray.size=1 then vs.toArray[0]else .tuple vs.toArray)=.tuple us/\us.size=rs.length/\∀(j:Nat)(r:RV),rs[j]?=O r->nq P E w (pE I s be ob) (E.fresh w0) (bo j) (us.getD j undef) r:=by
  intro L;rw[dif_neg dx];refine⟨_,rfl,by simp[n],λj r m=>?_⟩;obtain⟨v,hv,g⟩:=k j r m;have:vs.toArray.getD j undef=v:=by simp only[my,EX,hv,gh]
  grind
 match rs,k,many with
 |[r],k,_=>
  obtain⟨v,hv,g⟩:=k 0 r rfl;have i:vs.length=1:=by rw[n];rfl
  have o:vs=[v]:=by
   match vs,i,hv with
   |[x],_,N=>grind
  rw[dif_pos (by simp[i])];have e:vs.toArray[0]'(by simp[i])=v:=by simp[o]
  rw[e];exact g
 |[],_,many=>exact many aH|Q::R::rs,_,many=>exact many aH
theorem qB(h:aJ P E w0 I0 n s a w I be)(ob:V Nat){T:Nat->Prop}(c:∀B,T B->∃d,s.b d≠Y/\be d=O B):mX P E w0 w (pE I s be ob) s.a s.u T:=h.gi (.plus _ _ _) rfl (λ_=>False) (λ_ _ _ _ h=>h) (λ_ _ _=>rfl) (bq _) (λ_ h=>h.elim) (λp f=>f.imp id λ⟨d,B,_,g,b,e⟩ i hi j=>(h.aZ.bR i _ hi j).2.2.2.2 ⟨d,g,by rw[b,e]⟩) (λB b=>.inl (c B b))
theorem vS(h:ko P E w0 I0 fn.ntmps s a w)(c:RJ P fn out a' u' .ret s):a.defers=[]/\∃v,(results fn a.tmps).run P w=.ok v w/\Eo P E w0 I0 w a' u' out (.returned v):=by
 obtain⟨I,be,b⟩:=h;cases out with
 |ea x=>exact c.elim|ret rs=>obtain⟨e,⟨f,rfl,rfl⟩,ob,g⟩:=c;obtain⟨v,i,bo,⟨k,l,m⟩,n⟩:=Je b e g;have d:=b.defers;rw[f]at d;exact⟨d.GH,v,i,v,pE I s be ob,bo,rfl,qz b ob,k,l,m,qB b ob λB ⟨j,o⟩=>by grind⟩
theorem GM{x:AV}{v:ag}(b:aJ P E w0 I0 n s a w I be)(hv:cy w I v x)(c:NU out a' u' x s):a.defers=[]/\Eo P E w0 I0 w a' u' out (.panicked [{v:=v,recovered:=F}]):=by
 cases out with
 |ret rs=>exact c.elim|ea y=>obtain⟨rfl,e,rfl,rfl⟩:=c;have d:=b.defers;rw[e]at d;exact⟨d.GH,v,pE I s be Y,rfl,qz b Y,hv.mono (.plus _ _ _),qB b Y λB h=>h.elim⟩
theorem qC{n:Nat}{b:Nat->V Bx}(c:lN w I vs.toList args)(t:Nat):bU P w I be b g ((vs++Array.replicate n undef).getD t undef) (((args.map cH.val)[t]?).getD .none):=by
 have i:vs.size=args.length:=by simpa using c.1
 by_cases d:t<args.length
 .have a:(args.map cH.val)[t]?=O (.val args[t]):=by simp[d]
  rw[a];have e:vs.toList[t]?=O vs[t]:=by grind
  have f:=c.2 t vs[t] args[t] e (by simp[d]);have h:(vs++Array.replicate n undef).getD t undef=vs[t]:=by
   simp only[my]
   grind
  rw[h];exact f
 .have a:(args.map cH.val)[t]?=Y:=dx;rw[a];trivial
theorem E8{E:cd}{w0:af}{I0:aA}{s:St}(i:P.funcs[f]?=O fn)(j:fn.body=O c)
  (g:ko P E w0 I0 fn.ntmps s {tmps:=vs++Array.replicate (fn.ntmps-vs.size) undef,defers:=[]} w0)
  (h:nC P E w0 I0 fn.ntmps c (RJ P fn out a' u') (NU out a' u') s):Calls P f vs w0 λe w=>Eo P E w0 I0 w a' u' out e:=by
 refine calls_of_wp i j (pB (h _ _ g) λe a w d=>?_);cases e with
 |normal=>obtain ⟨s,g,b⟩:=d;exact vS g b|ret=>obtain ⟨s,g,b⟩:=d;exact vS g b
 |panic o=>obtain⟨x,v,s,I,be,rfl,k,m,n⟩:=d;exact GM m n k|exit id=>obtain ⟨s,_,b⟩:=d;exact b.elim|goto l=>obtain ⟨s,_,b⟩:=d;exact b.elim
 |outgrown=>exact d.elim
theorem Jf(a:P.funcs[f]?=O fn)(g:(fn.name== "runtime.NumGoroutine")=F)(b:fn.body=O c)(m:args.length<=fn.ntmps)
  (h:∀w0 I0,nC P E.plain w0 I0 fn.ntmps c (abf P fn out) (aeo out) (entry args)):tq P E f args out:=by
 refine⟨Go.Proofs.enters_of a g b,λw0 I0 vs i j e=>?_⟩;have n:vs.size=args.length:=by simpa using e.1
 refine E8 a b ⟨I0,λ_=>Y,?_⟩ (h w0 I0);exact⟨ee.refl i j,dx,.nil,λt o=>qC e t,λd x k=>by simp[entry]at k,λd d' B l=>by grind,λd B l=>by grind,λd B h=>(by cases h),mX.none λ_=>rfl⟩
theorem GN{a:Nat->V Ob}{u:Nat->aa}(e:P.funcs[f]?=O fn)(k:(fn.name== "runtime.NumGoroutine")=F)(g:fn.body=O c)(q:args.length<=fn.ntmps)
  (h:∀w0 I0,nC P (E.bX a I0) w0 I0 fn.ntmps c (RJ P fn out a' u') (NU out a' u') (qy args a u)):ov P E f args a u out a' u':=by
 refine⟨Go.Proofs.enters_of e k g,λw0 I0 vs l m b j=>?_⟩;have r:vs.size=args.length:=by simpa using j.1
 refine E8 e g ⟨I0,λ_=>Y,?_⟩ (h w0 I0);refine⟨ee.refl (E:=E.bX a I0) l m,dx,.nil,λt s=>qC j t,λd x n=>by simp[qy]at n,λd d' B o=>by grind,λd B o=>by grind,λd B _ _ h=>by simp[qy]at h,b.h7,b.inj,λi B hi p=>?_,b.un,λi x h=>by cases h⟩;obtain⟨q1,v,w,y,_⟩:=b.bR i B hi p
 grind
end
inductive rU(ops:Array Oper):Nat->Nat->Prop
 |Zb (k:Nat) (o:Oper) (e:Edge) (h:ops[k]?=O o) (he:e∈o.after) (hb:Region.binds .any e=W):rU ops k e.on
 |trans (k:Nat) (o:Oper) (e:Edge) (i:Nat) (h:ops[k]?=O o) (he:e∈o.after) (hb:Region.binds .any e=W) (h2:rU ops e.on i):rU ops k i
theorem BI{ops:Array aC}{k:Nat}{o:aC}(b:ops[k]?=O o)(acc:Array Nat)(d:∀(q i:Nat),(acc.getD q 0).testBit i=W->rU ops q i):∀(l:Z Edge)(m:Nat),(∀e∈l,e∈o.after)->(∀i,m.testBit i=W->rU ops k i)->
  ∀i,(l.foldl (λs e=>if Region.binds .any e then s|||2^e.on|||acc.getD e.on 0 else s) m).testBit i=W->rU ops k i
 |[],m,_,hm,i,h=>hm i h|e::l,m,c,hm,i,h=>by
  simp only[vA]at h;refine BI b acc d l _ (λe' j=>c e' (by simp[j])) (λf a=>?_) i h;split at a
  .rename_i g;simp only[Nat.testBit_or,lC]at a;rcases a with(a|a)|a
   grind
   .have:f=e.on:=by grind
    subst this;exact .Zb k o e b (c e aH) g
   .exact .trans k o e f b (c e aH) g (d _ _ a)
  grind
theorem qD(h:((Region.before ops).getD k 0).testBit i=W):rU ops k i:=by
 have m:∀(l:Z aC)(acc:Array Nat),(∀j,l[j]?=ops[acc.size+j]?)->(∀(q i:Nat),(acc.getD q 0).testBit i=W->rU ops q i)->
   ∀(q i:Nat),((l.foldl (λacc(o:aC)=>acc.push (o.after.foldl (λs e=>if Region.binds .any e then s|||2^e.on|||acc.getD e.on 0 else s) 0)) acc).getD q 0).testBit i=W->rU ops q i:=by
  intro l;induction l with
  |nil=>grind|cons o l b=>
   intro acc a c q i h;simp only[vA]at h;refine b _ (λj=>by have:=a (j+1);grind) (λq i h=>?_) q i h;by_cases d:q<acc.size
   .have:(acc.push (o.after.foldl (λs e=>if Region.binds .any e then s|||2^e.on|||acc.getD e.on 0 else s) 0)).getD q 0=acc.getD q 0:=by simp only[my,Array.getElem?_push,ao (Nat.ne_of_lt d)]
    grind
   .by_cases f:q=acc.size
    .subst f;have g:ops[acc.size]?=O o:=by simpa using(a 0).symm
     have:(acc.push (o.after.foldl (λs e=>if Region.binds .any e then s|||2^e.on|||acc.getD e.on 0 else s) 0)).getD acc.size 0=o.after.foldl (λs e=>if Region.binds .any e then s|||2^e.on|||acc.getD e.on 0 else s) 0:=by simp[my]
     rw[this,<-Za]at h;exact BI g acc c o.after.toList 0 (λe n=>by grind) (λi h=>by simp at h) i h
    grind
 unfold Region.before at h;rw[<-Za]at h
 grind
section
variable{P:ai}{E:cd}{w0:af}{I0:aA}{n:Nat}{o:aC}{s:St}
theorem PM{x y:cH}{G:Prop}(a:∀k p k' q,x=.val (.fl (.int k p))->y=.val (.fl (.int k' q))->False)(b:∀p q,x=.val (.fl (.bool p))->y=.val (.fl (.bool q))->False)(h:G):RE P op t x y K G:=by
 unfold RE
 grind
end
inductive Eff where
 |val (r:cH)
 |cells (cs:List cH)
 |box (d:Nat) (x:Bx)
def kh(ops:Array aC)(o:aC)(s:St):V aa:=
 match o.guard with
 |none=>O W|some (j,a)=>match(ops[j]?).bind (·.dst)with
  |some t=>uw s t a|none=>Y
def xM(ops:Array aC)(listed:Array aa):Prop:=∀k o,ops[k]?=O o->listed.getD k W=W->∀e∈o.after,Region.binds .any e=W->listed.getD e.on F=W
section
variable{P:ai}{E:cd}{ops:Array aC}{K:St->Prop}
theorem VE(h:listed.getD i W=F):listed.getD i F=F:=by grind
theorem GO(h:listed.getD i F=W):listed.getD i W=W:=by grind
theorem vT(d:xM ops listed){q:Nat}(h:rU ops q i):listed.getD q W=W->listed.getD i F=W:=by
 induction h with
 |Zb k o e h a b=>intro c;exact d k o h c e a b|trans k o e i h a b g f=>intro c;exact f (GO (d k o h c e a b))
theorem zg(d:xM ops listed){q:Nat}(h:rU ops q i)(a:q∈Region.ready .any ops listed):listed.getD i F=W:=by
 obtain⟨_,f,g,j⟩:=mem_ready.1 a;cases h with
 |Zb _ o e h b c=>grind|trans _ o e i h b c k=>grind [vT,GO]
theorem xM.set (b:xM ops listed) (h:j∈Region.ready .any ops listed):xM ops (listed.setIfInBounds j W):=by
 intro k o c a e d f;by_cases g:j=k
 grind [mem_ready,getD_set_true]
 .rw[getD_set_ne W g]at a;exact getD_set_true (b k o c a e d f)
end
section
variable{P:ai}{E:cd}{w0:af}{I0:aA}{n:Nat}{o:aC}{s:St}{ops:Array aC}
theorem vU{w:af}(d:ju n ops=W)(e:o∈ops)(c:kh ops o s=O b)(f:ko P E w0 I0 n s a w):Region.wanted o (yielded ops a.tmps)=b:=by
 have g:=rB.1 d o e;simp only[aP]at g;unfold kh at c;cases h:o.guard with
 |none=>grind [aN,Region.wanted]|some p=>
  obtain⟨j,k⟩:=p;simp only[h]at c;cases i:(ops[j]?).bind (·.dst)with
  |none=>grind|some t=>
   simp only[i]at c;have l:t<n:=by grind
   obtain⟨I,be,m⟩:=f
   grind [Region.wanted,ux]
variable{Q:e7->St->Prop}{X:AV->St->Prop}
end
def aA.ri (I:aA) (i B:Nat):aA:=⟨I.mem,λj=>if j=i then O B else I.ar j⟩
section
variable{P:ai}{E:cd}{w0:af}{I0:aA}{n:Nat}{s:St}{a:Act}{w w':af}{I I':aA}{be:Nat->V Nat}{o:aC}{K:St->Prop}
theorem dK.ri {B:Nat} (h:I.ar i=Y):dK w w I (I.ri i B):=.sub (λ_ h=>h) λj B' a=>by grind [aA.ri]
theorem aJ.LX (h:aJ P E w0 I0 n s a w I be) (i:Nat) (c0:E.ro i=Y) (o:Ob) (B:Nat) (hi:s.a i≠Y) (r:I.ar i=O B) (C:w'.os=w.os) (D:w'.tape=w.tape) (H:w'.output=w.output) (hsz:w'.heap.size=w.heap.size)
  (m:∀k,k≠B->w'.heap[k]?=w.heap[k]?) (u:∀B,gZ w w' B) (d0:dK w w' I I->pM P w' I B o):aJ P E w0 I0 n {s with a:=b8 s.a i (O o)} a w' I be:=by
 obtain⟨o1,o2,o3,J,K⟩:=h.aZ.bR i B hi r;have G:dK w w' I I:=.world (λp v e0 hv=>by grind [dn]) u;have L:=h.since.step (w':=w') (I':=I) C D H M (λk=>k=B) (λk _ z=>m k z) (λk z=>by grind) u (λ_ h=>h) rfl (λ_ h=>.inl h);have f0:∀b,E.cf w' b->E.cf w b:=(E.iU w w' h.since.hS (λb N=>m b (λe=>J (e▸N)))).2;have A:∀d B',s.b d≠Y->be d=O B'->w'.heap[B']?=w.heap[B']?:=λd B' f l=>m B' λe=>K ⟨d,f,by rw[l,e]⟩;have f:∀d,s.g d<s.g d∨(s.g d=s.g d/\fy P w w' be be s.b s.b d):=λd=>.inr ⟨rfl,.ig rfl rfl (λB g=>A d B g)⟩;refine⟨L,h.size,h.defers.mono G,λt Q=>(h.ct t Q).eP G f,λd x R=>(h.bD d x R).eP G f rfl (λB'=>A d B' (by grind)),h.inj,λd B' f l=>?_,h.ru,⟨λj x c=>?_,λj k B' S T U X=>?_,λj B' c l=>?_,h.aZ.un,λj y c=>?_⟩⟩
 .obtain ⟨q1,q,a0,b0⟩:=h.bR d B' f l
  grind
 .by_cases e:j=i;simp_all
  .simp only[aO _ _ e]at c;obtain⟨B',q1,q⟩:=h.aZ.h7 j x c;exact⟨B',q1,q.eP G (m B' λe'=>e (h.aZ.inj j i B (by simp[c]) hi (by rw[q1,e']) r))⟩
 .have g:∀j,b8 s.a i (O o) j≠Y->s.a j≠Y:=λj c=>by grind [aO]
  exact h.aZ.inj j k B' (g j S) (g k T) U X
 .have g:s.a j≠Y:=by grind [aO]
  obtain⟨q1,q,a0,b0,g0⟩:=h.aZ.bR j B' g l
  grind
 .have e:j≠i:=λe=>by grind
  exact⟨(aO _ _ e).trans (h.aZ.ro j y c).1,(h.aZ.ro j y c).2⟩
theorem aJ.Ye (h:aJ P E w0 I0 n s a w I be) (T:E.cT=F) (i:Nat) (H:s.u i=F) (x:Ob) (B:Nat) (f:E.fresh w0 B/\B<w.heap.size/\(∀p,I p->p.block≠B)/\¬E.cf w B/\(∀d,s.b d≠Y->be d≠O B)/\∀j,s.a j≠Y->I.ar j≠O B) (m:pM P w (I.ri i B) B x):
  aJ P E w0 I0 n {s with a:=b8 s.a i (O x),u:=b8 s.u i W} a w (I.ri i B) be:=by
 have J:=h.aZ.un i H;have hi:s.a i=Y:=by
  cases K:s.a i with
  |none=>rfl|some y=>
   obtain⟨B',q,_⟩:=h.aZ.h7 i y K
   grind
 have G:dK w w I (I.ri i B):=.ri J;have L:ee E w0 I0 w (I.ri i B):=by have:=h.since;exact⟨this.os,this.tape,this.output,this.size,this.block,this.cf,this.hS,this.oO,λj B' b=>G.ar j B' (this.ar j B' b),λm=>(by grind),this.shape,this.new,this.lt,this.off⟩
 have l:∀d,s.g d<s.g d∨(s.g d=s.g d/\fy P w w be be s.b s.b d):=λd=>.inr ⟨rfl,λh=>⟨h,rfl⟩,λ_ _ _ h=>h⟩;have g:∀j,j≠i->(I.ri i B).ar j=I.ar j:=λj b=>by simp[aA.ri,b]
 have N:(I.ri i B).ar i=O B:=by simp[aA.ri]
 have o:∀j,j≠i->b8 s.a i (O x) j≠Y->s.a j≠Y:=λj e b=>by simpa only[aO _ _ e]using b
 refine⟨L,h.size,h.defers.mono G,λt Q=>(h.ct t Q).eP G l,λd x m=>(h.bD d x m).eP G l rfl (λ_ _=>rfl),h.inj,h.bR,h.ru,⟨λj y b=>?_,λj k B' r v z A=>?_,λj B' b c=>?_,λj b=>?_,λj y b=>?_⟩⟩
 .by_cases e:j=i;simp_all
  .simp only[aO _ _ e]at b;obtain⟨B',q1,R⟩:=h.aZ.h7 j y b;exact⟨B',(g j e).trans q1,R.eP G rfl⟩
 .by_cases C:j=i
  grind
  .by_cases D:k=i
   grind
   .rw[g j C]at z;rw[g k D]at A;exact h.aZ.inj j k B' (o j C r) (o k D v) z A
 .by_cases e:j=i
  .subst e;rw[N]at c;injection c with c;subst c;exact⟨f.1,f.2.1,f.2.2.1,f.2.2.2.1,λ⟨d,l,S⟩=>f.2.2.2.2.1 d l S⟩
  .rw[g j e]at c;exact h.aZ.bR j B' (o j e b) c
 .have e:j≠i:=λe=>by simp_all
  simp only[aO _ _ e]at b;rw[g j e];exact h.aZ.un j b
 .obtain ⟨r,v⟩:=h.aZ.ro j y b
  grind [aO,trans]
theorem aJ.RL (h:aJ P E w0 I0 n s a w I be) (d:E.cT=F) (i:Nat) (c:s.u i=F) (x:Ob) {ob:Obj} (e:w'.os=w.os) (f:w'.tape=w.tape) (g:w'.output=w.output) (k:w'.heap=w.heap.push ob)
  (l:w'.heap[w.heap.size]?=O ob->dK w w' I (I.ri i w.heap.size)->pM P w' (I.ri i w.heap.size) w.heap.size x):
  aJ P E w0 I0 n {s with a:=b8 s.a i (O x),u:=b8 s.u i W} a w' (I.ri i w.heap.size) be:=by
 obtain⟨m,o,b,p,q⟩:=h.fresh e f g k;exact m.Ye d i c x w.heap.size ⟨b.1,b.2.1,b.2.2.1,b.2.2.2.1,b.2.2.2.2,λj r=>q _ rfl j r⟩ (l o (p.trans (.ri (h.aZ.un i c))))
theorem aJ.RM (h:aJ P E w0 I0 n s a w I be) (i:Nat) (g:E.ro i=Y):aJ P E w0 I0 n {s with a:=b8 s.a i Y} a w I be:=by
 have c:∀j,b8 s.a i Y j≠Y->s.a j≠Y:=λj b=>by
  have e:j≠i:=λe=>by simp_all
  simpa only[aO _ _ e]using b
 refine⟨h.since,h.size,h.defers,h.ct,h.bD,h.inj,h.bR,h.ru,⟨λj x b=>?_,λj k B d f=>h.aZ.inj j k B (c j d) (c k f),λj B b=>h.aZ.bR j B (c j b),h.aZ.un,λj y b=>(by
  have e:j≠i:=λe=>by grind
  exact⟨(aO _ _ e).trans (h.aZ.ro j y b).1,(h.aZ.ro j y b).2⟩)⟩⟩
 have e:j≠i:=λe=>by simp_all
 simp only[aO _ _ e]at b;exact h.aZ.h7 j x b
theorem aJ.Jg (h:aJ P E w0 I0 n s a w I be) (p:E.cT=F) (i:Nat) (k:s.u i=F) (d:Nat) (l:s.b d=O (.br e xs)) {B:Nat} (f:be d=O B):
  aJ P E w0 I0 n {s with b:=b8 s.b d Y,a:=b8 s.a i (O (.br e xs)),u:=b8 s.u i W} a w (I.ri i B) be:=by
 have g:s.b d≠Y:=by simp[l]
 obtain⟨o1,o2,o3,q⟩:=h.bR d B g f;have r:=h.drop d;have t:=h.bD d _ l;refine r.Ye p i k (.br e xs) B ⟨o1,o2,o3,q,λd' m v=>?_,λj y z=>(h.aZ.bR j B y z).2.2.2.2 ⟨d,g,f⟩⟩ ?_
 .have e':d'≠d:=λe'=>by simp_all
  simp only[aO _ _ e']at m;exact e' (h.inj d' d B m g v f)
 .obtain ⟨q1,A,C,o⟩:=t;rw[f]at o;obtain⟨cur,cap,D,G,H,J,K⟩:=o;exact⟨q1,A,C,cur,cap,D,G,H,J,λi j x c L N=>(K i j x c L N).mono (.ri (h.aZ.un _ k))⟩
theorem aJ.VF (h:aJ P E w0 I0 n s a w I be) (i d:Nat) (m:E.ro i=Y) (k:s.a i=O (.br e xs)) {B:Nat} (f:I.ar i=O B):
  aJ P E w0 I0 n {s with b:=b8 s.b d (O (.br e xs)),g:=b8 s.g d (s.g d+1),a:=b8 s.a i Y} a w I (b8 be d (O B)):=by
 have l:s.a i≠Y:=by simp[k]
 obtain⟨o1,o2,o3,z,A⟩:=h.aZ.bR i B l f;have o:=h.RM i m;refine o.mz d (.br e xs) (O B) ?_ (λB' c=>?_) (λB' c j p q=>?_)
 .obtain ⟨B',q1,r⟩:=h.aZ.h7 i _ k;rw[f]at q1;injection q1 with q1;subst q1;obtain⟨t,u,v,x⟩:=r;refine⟨t,u,v,?_⟩;simp only[ch];exact x
 grind
 .injection c with c;subst c;have e:j≠i:=λe=>by simp_all
  have y:s.a j≠Y:=by simpa only[aO _ _ e]using p
  exact e (h.aZ.inj j i _ y l q f)
end
def xN(n:Nat)(c:ah):aa:=ca c&&match c with
 |.tmp t=>decide (t<n)|_=>W
theorem Zc{Q:e7->St->Prop}{c:ah}{x y:bT}(a:xN n c=W)(d:s.ev c=.val (.fl (.bool b)))(e:b=W->nC P E w0 I0 n x Q X s)(f:b=F->nC P E w0 I0 n y Q X s):
  nC P E w0 I0 n (.cond c x y) Q X s:=by
 simp only[xN,aP]at a
 grind [RH]
theorem pQ(cs:Z AV):(AV.agg cs).cells=cs:=rfl
theorem E9{x:Int}(a:-9223372036854775808<=x)(b:x<=9223372036854775807):IntKind.i64.wrap x=x:=by grind [IntKind.wrap,IntKind.bits,IntKind.signed]
def nD(P:ai)(t:an):V Nat:=
 match P.underlying t with
 |some (.int _)=>O 0|some .bool=>O 1
 |some .string=>O 2|_=>Y
def pR(P:ai):Nat->Z Field->V (Z Nat)
 |_,[]=>O []|i,f::fs=>if(f.name != "_" &&f.offset==i)=W then
   match nD P f.type,pR P (i+1) fs with
   |some k,O a=>O (k::a)|_,_=>Y
  else Y
def sM(P:ai)(t:an):V (Z Nat):=
 match P.underlying t with
 |some (.struct fs)=>if(P.eqGuardType P.depth t||P.stoodInHeld t)=W then Y else pR P 0 fs.toList|_=>Y
def gp:Z Nat->Z AV->Z AV->V aa
 |[],[],[]=>O W|0::c,.fl (.int k a)::xs,.fl (.int k' b)::ys=>if k=k' then(gp c xs ys).map λr=>(a==b)&&r else Y
 |1::c,.fl (.bool a)::xs,.fl (.bool b)::ys=>(gp c xs ys).map λr=>(a==b)&&r|2::c,.fl (.string a)::xs,.fl (.string b)::ys=>(gp c xs ys).map λr=>(a.data.toList==b.data.toList)&&r
 |_,_,_=>Y
section
variable{P:ai}
theorem vV(c:nD P t=O k){xs:Array ag}{v:ag}(a:xs[off]?=O v)(w:af):(part t xs off).run P w=.ok v w:=by
 have b:mZ P t=O F:=by grind [nD,mZ]
 simp only[part,cx,pN b,cL,jo,cA,a,cW]
theorem nE:∀{g:Z Nat}{xs ys:Z AV}{e:aa},gp g xs ys=O e->∃us vs:Z ag,xs=us.map .fl/\ys=vs.map .fl
 |[],[],[],e,h=>⟨[],[],rfl,rfl⟩|0::g,.fl (.int k a)::xs,.fl (.int k' b)::ys,e,h=>by
  simp only[gp]at h;split at h
  .obtain ⟨r,c,_⟩:=c8.1 h;obtain⟨us,vs,d,f⟩:=nE c;exact⟨.int k a::us,.int k' b::vs,by simp[d],by simp[f]⟩
  .cases h
 |1::g,.fl (.bool a)::xs,.fl (.bool b)::ys,e,h=>by simp only[gp]at h;obtain⟨r,c,_⟩:=c8.1 h;obtain⟨us,vs,d,f⟩:=nE c;exact⟨.bool a::us,.bool b::vs,by simp[d],by simp[f]⟩|2::g,.fl (.string a)::xs,.fl (.string b)::ys,e,h=>by simp only[gp]at h;obtain⟨r,c,_⟩:=c8.1 h;obtain⟨us,vs,d,f⟩:=nE c;exact⟨.string a::us,.string b::vs,by simp[d],by simp[f]⟩
theorem abg(h:nD P t=O 0):∃k,P.underlying t=O (.int k):=by grind [nD]
theorem abh(h:nD P t=O 1):P.underlying t=O .bool:=by grind [nD]
theorem abi(h:nD P t=O 2):P.underlying t=O .string:=by grind [nD]
theorem vW(d:Nat)(w:af)(X Yloc:Array ag):∀(fs:Z Field)(s:Z Nat)(i:Nat)(xs ys:Z AV)(e:aa),pR P i fs=O s->
  (∀(j:Nat)(v:ag),xs[j]?=O (.fl v)->X[i+j]?=O v)->(∀(j:Nat)(v:ag),ys[j]?=O (.fl v)->Yloc[i+j]?=O v)->gp s xs ys=O e->(Op.eqFields (d+1) X Yloc fs).run P w=.ok e w
 |[],s,i,xs,ys,e,g,y,z,h=>by simp only[pR,aN]at g;subst g;cases xs<;>cases ys<;>simp[gp]at h;subst h;rfl
 |f::fs,s,i,xs,ys,e,g,y,z,h=>by
  simp only[pR]at g;split at g
  .rename_i t;simp only[aP,bne_iff_ne,gE]at t;split at g
   .rename_i k A o B;simp only[aN]at g;subst g;have step:∀(a b:ag)(u x:Z AV)(c r:aa),xs=.fl a::u->ys=.fl b::x->(Op.equalIn (d+1) f.type a b).run P w=.ok c w->gp A u x=O r->e=(c&&r)->(Op.eqFields (d+1) X Yloc (f::fs)).run P w=.ok e w:=by
     intro a b u x c r l m C n p;subst l m;have D:=vV o (xs:=X) (off:=f.offset) (v:=a) (by rw[t.2];exact y 0 a aH) w;have E:=vV o (xs:=Yloc) (off:=f.offset) (v:=b) (by rw[t.2];exact z 0 b aH) w;have K:=vW d w X Yloc fs A (i+1) u x r B (λj v G=>by rw[ql,py 1 j];simp_all) (λj v G=>by rw[ql,py 1 j];simp_all) n;simp only[Op.eqFields,aq t.1,cx,D,E,C,cL,Sem.run_ite];cases c with
     |false=>simp_all|true=>grind
    unfold gp at h;split at h
    grind
    .rename_i q;injection q with l m;subst l m;split at h
     .rename_i H;obtain⟨r,n,p⟩:=c8.1 h;obtain⟨I,J⟩:=abg o;subst H;exact step _ _ _ _ _ _ rfl rfl (run_equalIn_int w d f.type _ I _ _ J) n p.symm
     .cases h
    .rename_i q;injection q with l m;subst l m;obtain⟨r,n,p⟩:=c8.1 h;exact step _ _ _ _ _ _ rfl rfl (run_equalIn_bool' w d f.type _ _ (abh o)) n p.symm
    .rename_i q;injection q with l m;subst l m;obtain⟨r,n,p⟩:=c8.1 h;refine step _ _ _ _ _ _ rfl rfl (run_equalIn_string w d f.type _ _ (abi o)) n ?_
     grind [ByteArray.toList_eq]
    .cases h
   .cases g
  .cases g
theorem pS:∀us:Z ag,(us.map AV.fl).mapM LQ=O us
 |[]=>rfl|u::us=>by simp[LQ,pS us]
theorem GP{o:aC}{x:ah}(b:o.op=.binOp op t x y t'){ys:Z AV}(i:s.ev x=.val (.agg xs))(j:s.ev y=.val (.agg ys)){d:Z Nat}(a:sM P t=O d)
  {e:aa} (k:gp d xs ys=O e) (l:op=.eql∨op=.neq) (m:K (.val (.fl (.bool (if op=.eql then e else !e))))):BE P o s K:=by
 obtain⟨us,vs,rfl,rfl⟩:=nE k;unfold sM at a;split at a
 .rename_i fs n;split at a
  .cases a
  .rename_i c;simp only[lC,not_or,Bool.not_eq_true]at c;have q:P.underlying t=O (.struct (P.fieldsOf t)):=by simp[Program.fieldsOf,n]
   have r:P.fieldsOf t=fs:=by grind
   have f:ml s x=.agg us.toArray:=by grind [ml,nB,pD,pS]
   have g:ml s y=.agg vs.toArray:=by grind [ml,nB,pD,pS]
   have h:∀w,(Op.equalIn 10000 t (.agg us.toArray) (.agg vs.toArray)).run P w=.ok e w:=λw=>by grind [run_equalIn_agg,vW]
   refine⟨.bool (if op=.eql then e else !e),λw=>?_,⟨rfl,λz p=>?_⟩,m⟩
   .rcases l with rfl|rfl
    .simp only[execOp,b,f,g,cx,run_eqGuard_agg w _ _ _ _ _ _ c.1,cL,run_eql_struct,h,cW,cm]
    .simp only[execOp,b,f,g,cx,run_eqGuard_agg w _ _ _ _ _ _ c.1,cL,run_neq_struct,h,cW,reduceCtorEq,cA]
   .simp only[b,Op.operands]at p;have:z=x∨z=y:=by grind
    rcases this with rfl|rfl
    .rw[i];simp only[nB,pD,pS,dr,Option.isSome_some,mW];grind
    .rw[j];simp only[nB,pD,pS,dr,Option.isSome_some,mW];grind
 .cases a
end
def jK(P:ai)(t:an)(cs:Z AV)(K:AV->Prop):Prop:=
 match mZ P t with
 |some W=>(0<P.cellsOf t/\P.cellsOf t<=cs.length)/\K (.agg (cs.take (P.cellsOf t)))|some F=>(0<P.cellsOf t/\P.cellsOf t<=cs.length)/\K (cs.headD (.fl undef))
 |none=>False
def vX(P:ai)(s:St)(t:an)(r:cH)(K:cH->Prop):Prop:=
 match r with
 |.val (.ref cs)=>jK P t cs λv=>K (.val v)|.dT d gg sz i k=>
  match s.b d with
  |some (.cells cs)=>
   match mZ P t with
   |some W=>
    match dC ((cs.drop (i*sz+k)).take (P.cellsOf t))with
    |some xs=>(gg=s.g d/\0<P.cellsOf t/\P.cellsOf t<=(cs.drop (i*sz+k)).length)/\K (.val (.agg xs))|none=>False
   |some F=>(gg=s.g d/\0<P.cellsOf t/\P.cellsOf t<=(cs.drop (i*sz+k)).length)/\K ((cs.drop (i*sz+k)).headD .none)|none=>False
  |some (.br e xs)=>
   match xs[i]? with
   |some y=>(gg=s.g d/\sz=P.cellsOf e)/\jK P t (y.cells.drop k) λv=>K (.val v)|none=>False
  |none=>False
 |_=>False
def jv(P:ai)(s:St)(t:an)(f:Nat)(r:cH)(K:cH->Prop):Prop:=
 match kX P t f with
 |some (off,_)=>
  match r with
  |.val (.ref cs)=>K (.val (.ref (cs.drop off)))|.dT d gg sz i k=>(gg=s.g d/\s.b d≠Y)/\K (.dT d gg sz i (k+off))
  |_=>False
 |none=>False
def jw(P:ai)(s:St)(t:an)(x y:cH)(K:cH->Prop):Prop:=
 match gV P t with
 |some e=>
  match y with
  |.val (.fl (.int _ m))=>
   match x with
   |.val (.sl xs)=>
    match xs[m.toNat]? with
    |some z=>(0<P.cellsOf e/\0<=m/\z.cells.length=P.cellsOf e)/\K (.val (.ref z.cells))|none=>False
   |.bF xs=>
    match xs[m.toNat]? with
    |some z=>(0<P.cellsOf e/\0<=m/\z.cells.length=P.cellsOf e)/\K (.val (.ref z.cells))|none=>False
   |.view d gg off len=>(0<P.cellsOf e/\0<=m/\gg=s.g d/\(∃xs,s.b d=O (.br e xs))/\m<len)/\K (.dT d gg (P.cellsOf e) (off+m.toNat) 0)|_=>False
  |_=>False
 |none=>False
def rV(o:V ag)(K:cH->Prop):Prop:=
 match o with
 |some v=>K (.val (.fl v))|none=>False
def RN(P:ai)(op:iS)(t:an)(x y:cH)(K:cH->Prop)(G:Prop):Prop:=
 match x,y with
 |.val (.fl (.int k p)),.val (.fl (.int k' q))=>(k'=k∨kZ op=W)/\rV (rQ op k p q) K|.val (.fl (.bool p)),.val (.fl (.bool q))=>(P.underlying t=O .bool/\(op=.eql∨op=.neq))/\K (.val (.fl (.bool (if op=.eql then p==q else p !=q))))
 |.val (.fl (.string p)),.val (.fl (.string q))=>rV (nb op p.data.toList q.data.toList) K|.val (.agg xs),.val (.agg ys)=>match sM P t with
  |some a=>match gp a xs ys with
   |some e=>(op=.eql∨op=.neq)/\K (.val (.fl (.bool (if op=.eql then e else !e))))|none=>False
  |none=>False
 |_,_=>G
def jX(P:ai)(s:St)(t:an)(xs:Z AV)(lo hi mx:V ah)(K:cH->Prop):Prop:=
 match gV P t with
 |some e=>
  match mS s 0 lo with
  |some l=>
   match mS s xs.length hi with
   |some q=>
    match mx with
    |none=>(0<P.cellsOf e/\(∀x∈xs,x.cells.length=P.cellsOf e)/\l<=q/\q<=xs.length)/\K (.val (.sl ((xs.drop l).take (q-l))))|some z=>(0<P.cellsOf e/\(∀x∈xs,x.cells.length=P.cellsOf e)/\l<=q/\q<=xs.length/\hi.isSome=W/\mS s 0 (O z)=O q)/\K (.bF ((xs.drop l).take (q-l)))
   |none=>False
  |none=>False
 |none=>False
def GQ(P:ai)(s:St)(t:an)(x:cH)(lo hi mx:V ah)(K:cH->Prop):Prop:=
 match x with
 |.val (.sl xs)=>jX P s t xs lo hi mx K|.bF xs=>jX P s t xs lo hi mx K
 |.view d gg off len=>
  match gV P t with
  |some e=>
   match mS s 0 lo with
   |some l=>
    match mS s len hi with
    |some q=>(mx=Y/\gg=s.g d/\(∃xs,s.b d=O (.br e xs))/\l<=q/\q<=len)/\K (.view d gg (off+l) (q-l))|none=>False
   |none=>False
  |none=>False
 |.val (.fl (.string xs))=>
  match mS s 0 lo with
  |some l=>
   match mS s xs.data.toList.length hi with
   |some h=>(mx=Y/\P.underlying t=O .string/\l<=h/\h<=xs.data.toList.length)/\K (.val (.fl (bs ((xs.data.toList.drop l).take (h-l)))))|none=>False
  |none=>False
 |_=>False
def RR(P:ai)(src dst:an):V dd:=
 match P.underlying src,P.underlying dst with
 |some _,O (.int k)=>O k|_,_=>Y
def gG(P:ai)(o:aC)(s:St)(K:cH->Prop):Prop:=
 match o.op with
 |.move x=>K (s.ev x)|.pick c x y=>match s.ev c with
  |.val (.fl (.bool b))=>if b=W then K (s.ev x)else K (s.ev y)|_=>False
 |.load t x=>vX P s t (s.ev x) K|.fieldAddr t x f=>jv P s t f (s.ev x) K
 |.indexAddr t x y=>jw P s t (s.ev x) (s.ev y) K|.extract x k=>match s.ev x with
  |.gw rs=>match rs[k]? with
   |some r=>K r|none=>False
  |_=>False
 |.field t x f=>match kX P t f with
  |some (off,d)=>match s.ev x with
   |.val (.agg cs)=>jK P d (cs.drop off) λv=>K (.val v)|_=>False
  |none=>False
 |.makeFunc (.func f) first caps=>match da s caps.toList with
  |some xs=>first.toList=[]/\K (.val (.fn f xs))
  |none=>False
 |.makeInterface t x=>match bz (s.ev x)with
  |some v=>P.concrete t=W/\K (.val (.mR t v))|none=>False
 |.build t e=>match kW P t with
  |some a=>match oq P t with
   |some z=>match jh s a e.toList with
    |some ps=>(a.all λp=>decide (p.1+p.2<=z.cells.length))=W/\K (.val (.agg (dD z.cells ps)))|none=>False
   |none=>False
  |none=>False
 |.slice t x lo hi mx=>GQ P s t (s.ev x) lo hi mx K|.index t x y=>match s.ev x with
  |.val (.fl (.string l))=>match s.ev y with
   |.val (.fl (.int _ m))=>match l.data.toList[m.toNat]? with
    |some c=>(P.underlying t=O .string/\0<=m)/\K (.val (.fl (.int .u8 c.toNat)))|none=>False
   |_=>False
  |_=>False
 |.binOp op t x y _=>RN P op t (s.ev x) (s.ev y) K (BE P o s K)|.unOp .not _ x=>match s.ev x with
  |.val (.fl (.bool p))=>K (.val (.fl (.bool (!p))))|_=>False
 |.unOp .neg _ x=>match s.ev x with
  |.val (.fl (.int k p))=>K (.val (.fl (.int k (k.wrap (0-p)))))|_=>False
 |.convert src dst x=>match s.ev x with
  |.val (.fl (.int _ n))=>match RR P src dst with
   |some k'=>K (.val (.fl (.int k' (k'.wrap n))))|none=>BE P o s K
  |_=>BE P o s K
 |_=>False
section
variable{P:ai}{E:cd}{o:aC}{s:St}
theorem pT{cs:Z AV}{K:AV->Prop}(h:jK P t cs K):jR P t cs K:=by grind [jK,jR]
theorem NV(h:vX P s t r K):NT P s t r K:=by
 unfold vX at h;split at h
 .exact pT h
 grind [NT,jW,pT]
 grind
theorem GR{f:Nat}(h:jv P s t f r K):BC P s t f r K:=by
 unfold jv at h;split at h
 .rename_i off a b;refine⟨off,a,b,?_⟩
  grind
 grind
theorem GS{x y:cH}(h:jw P s t x y K):BD P s t x y K:=by
 unfold jw at h;split at h
 .rename_i e he;split at h
  .split at h
   .split at h
    .rename_i z hz;exact ⟨e,he,h.1.1,h.1.2.1,z,hz,h.1.2.2,h.2⟩
    grind
   .split at h
    .rename_i z hz;exact ⟨e,he,h.1.1,h.1.2.1,z,hz,h.1.2.2,h.2⟩
    grind
   .exact ⟨e,he,h.1.1,h.1.2.1,h.1.2.2.1,h.1.2.2.2.1,h.1.2.2.2.2,h.2⟩
   grind
  grind
 grind
theorem BJ{o:V ag}(h:rV o K):∃v,o=O v/\K (.val (.fl v)):=by
 unfold rV at h
 grind
theorem BK(b:dR):Value.string b=bs b.data.toList:=by grind
theorem Zd{x y:cH}{a:Prop}(f:∀xs ys b e,x=.val (.agg xs)->y=.val (.agg ys)->sM P t=O b->gp b xs ys=O e->(op=.eql∨op=.neq)->K (.val (.fl (.bool (if op=.eql then e else !e))))->a)(h:RN P op t x y K a):RE P op t x y K ((∃p q,x=.val (.fl (bs p))/\y=.val (.fl (bs q))/\∃v,nb op p q=O v/\K (.val (.fl v)))∨a):=by
 unfold RN at h;split at h
 .obtain ⟨v,c,d⟩:=BJ h.2;exact ⟨h.1,v,c,d⟩
 .exact h
 .rename_i p q;obtain⟨v,c,d⟩:=BJ h;exact .inl ⟨_,_,by rw[BK],by rw[BK],v,c,d⟩
 .rename_i xs ys;split at h
  .rename_i b g;split at h
   .rename_i e i;exact .inr (f _ _ _ _ rfl rfl g i h.1 h.2)
   grind
  grind
 grind [PM]
theorem BL(h:jX P s t xs lo hi mx K):vO P s t xs lo hi mx K:=by
 unfold jX at h;split at h
 .rename_i e a;split at h
  .rename_i l b;split at h
   .rename_i q c;split at h
    .exact ⟨e,a,l,q,b,c,h.1,h.2⟩
    .obtain ⟨⟨d,f,g,i,j,k⟩,m⟩:=h;exact⟨e,a,l,q,b,c,⟨d,f,g,i⟩,j,k,m⟩
   grind
  grind
 grind
theorem RT{x:cH}(h:GQ P s t x lo hi mx K):LW P s t x lo hi mx K (mx=Y/\P.underlying t=O .string/\∃xs,x=.val (.fl (bs xs))/\∃l h,mS s 0 lo=O l/\mS s xs.length hi=O h/\(l<=h/\h<=xs.length)/\K (.val (.fl (bs ((xs.drop l).take (h-l)))))):=by
 unfold GQ at h;split at h
 .exact BL h
 .exact BL h
 .split at h
  .rename_i e he;split at h
   .rename_i l a;split at h
    .rename_i q b;obtain⟨⟨c,d,f,g,i⟩,j⟩:=h;exact⟨c,e,he,d,f,l,q,a,b,⟨g,i⟩,j⟩
    grind
   grind
  grind
 .split at h
  .rename_i l a;split at h
   .rename_i q b;obtain⟨⟨c,d,f,g⟩,i⟩:=h;exact⟨c,d,_,by rw[BK],l,q,a,b,⟨f,g⟩,i⟩
   grind
  grind
 grind
theorem PN(h:gG P o s K):sL P o s K:=by
 unfold gG at h;unfold sL;cases b:o.op<;>simp only[b]at h⊢
 grind
 grind
 case load t x=>exact NV h
 case fieldAddr t x f=>exact GR h
 case indexAddr t x y=>exact GS h
 case extract x k=>grind
 case field t x f=>grind [pT]
 case makeFunc fn first caps=>
  cases fn<;>simp only at h⊢
  grind
 case makeInterface t x=>grind
 grind
 case slice t x lo hi mx=>exact RT h
 case index t x y=>
  split at h
  .rename_i l j;split at h
   .rename_i k m p;split at h
    .rename_i c q;exact ⟨h.1.1,_,by rw[j,BK],k,m,p,h.1.2,c,q,h.2⟩
    grind
   grind
  grind
 grind [binOp,Zd,GP]
 case unOp op t x=>
  cases op<;>simp only at h⊢
  grind
  grind
 case convert t t' x=>
  split at h
  .rename_i k n g;split at h
   .rename_i k' a;unfold RR at a;split at a
    .rename_i d e r u;simp only[aN]at a;subst a;refine⟨.int e (e.wrap n),λw=>?_,⟨rfl,λy v=>?_⟩,h⟩
     .have z:ml s x=.int k n:=by simp[ml,g,nB,pD]
      have A:P.intKind t'=e:=by simp[Program.intKind,u]
      have i:=run_convert_int (P:=P) w t t' k n (by rw[r];rfl) (by grind);rw[A]at i;simp[execOp,b,z,i]
     .simp only[b,Op.operands]at v;have:y=x:=by grind
      subst this;rw[g];exact⟨rfl,aH⟩
    .cases a
   .exact h
  .exact h
theorem RU(h:gG P o s K):GK P o s K:=.inl (PN h)
end
theorem bind_some{β:Type}{o:V α}{k:α->V β}{r:β}(h:o.bind k=O r):∃x,o=O x/\k x=O r:=by
 cases o with
 |none=>cases h
 |some x=>grind
def ax{α:Type}(l:Z α)(i:Int):V α:=if 0<=i then l[i.toNat]? else Y
theorem Fa{l:Z α}{i:Int}{x:α}(h:ax l i=O x):0<=i/\l[i.toNat]?=O x/\i<(l.length:Int):=by grind [ax,cr]
def dv(b:aa):V ab:=if b=W then O ()else Y
theorem dy{u:ab}(h:dv b=O u):b=W:=by grind [dv]
theorem aJ.Jh {w:af} {I:aA} (h:aJ P E w0 I0 n s a w I be) (d:Nat):
  aJ P E w0 I0 n {s with b:=b8 s.b d Y} a w (I.plus λp=>∃B,s.b d≠Y/\be d=O B/\p.block=B) be:=by
 have c:=h.drop d;have l:∀d',s.g d'<s.g d'∨(s.g d'=s.g d'/\fy P w w be be (b8 s.b d Y) (b8 s.b d Y) d'):=λd'=>.inr ⟨rfl,λh=>⟨h,rfl⟩,λ_ _ _ h=>h⟩;refine⟨h.since.step (w':=w) rfl rfl rfl (bq _) (λ_=>False) (λ_ _ _=>rfl) (λ_ r=>r.elim) (gZ.refl w) (λ_ h=>.inl h) rfl ?_,c.size,c.defers.mono (.plus _ _ _),
  λt u=>(c.ct t u).eP (.plus _ _ _) l,λd' x v=>(c.bD d' x v).eP (.plus _ _ _) l rfl (λ_ _=>rfl),c.inj,λd' B k f=>?_,c.ru,
  c.gi (.plus _ _ _) rfl (λ_=>False) (λ_ _ _ _ h=>h) (λ_ _ _=>rfl) (bq _) (λ_ h=>h.elim) (λp g=>g.imp id λ⟨B,j,f,e⟩ i hi y=>(h.aZ.bR i _ hi y).2.2.2.2 ⟨d,j,by rw[f,e]⟩) (λ_ h=>.inl h)⟩
 .rintro p (g|⟨B,j,f,rfl⟩)
  grind
  .obtain ⟨q1,m,z,o⟩:=h.bR d _ j f
   grind
 .obtain ⟨q1,m,z,o⟩:=c.bR d' B k f;refine⟨q1,m,λp g e=>?_,o⟩;rcases g with g|⟨B',j,A,e'⟩
  grind
  .have q:d'≠d:=λe=>k (by subst e;simp);have C:s.b d'≠Y:=by simpa only[aO _ _ q]using k
   have D:B'=B:=e'.symm.trans e;subst D;exact q (h.inj d' d B' C j f A)
theorem RW{w:af}(t d:Nat){e:Nat}(k:s.r t=.view d gg off len)(l:gg=s.g d)(g:s.b d=O (.br e xs))(h:ko P E w0 I0 n s a w):
  ko P E w0 I0 n {s with r:=b8 s.r t (.val (.sl ((xs.drop off).take len))),b:=b8 s.b d Y} a w:=by
 obtain⟨I,be,h⟩:=h;have c:=h.Jh d;refine⟨_,be,c.since,c.size,c.defers,λt' i=>?_,c.bD,c.inj,c.bR,c.ru,c.aZ⟩;by_cases j:t'=t
 .subst j;have f:=h.ct t' i;rw[k]at f;simp only[ch];exact vG g (h.bD d _ g) (f.2 l) (.plus _ _ _) (λB m p o=>.inr ⟨B,by simp[g],m,o⟩)
 .have f:=c.ct t' i;simpa only[aO _ _ j]using f
def jx(d gg:Nat)(c:Nat->Nat->V AV):cH->cH
 |.view d' g' off len=>if d'=d/\g'=gg then(match c off len with|some x=>.val x|none=>.none)else .view d' g' off len
 |r=>r
def RX(d gg:Nat)(c:Nat->Nat->V AV):Bx->Bx
 |.cells cs=>.cells (cs.map (jx d gg c))|x=>x
def PO(b:Nat->V Bx)(d gg:Nat)(c:Nat->Nat->V AV):Nat->V Bx:=λd'=>if d'=d then Y else(b d').map (RX d gg c)
def St.cv (s:St) (d:Nat) (c:Nat->Nat->V AV):St:={s with r:=λt=>jx d (s.g d) c (s.r t),b:=PO s.b d (s.g d) c}
section
variable{P:ai}{E:cd}{w0:af}{I0:aA}{n:Nat}{s:St}{a:Act}{w:af}{I I':aA}{be:Nat->V Nat}
theorem LY{b:Nat->V Bx}{c:Nat->Nat->V AV}(h:PO b d gg c d'≠Y):d'≠d/\b d'≠Y:=by
 unfold PO at h
 grind
theorem RY{b:Nat->V Bx}{c:Nat->Nat->V AV}{v:ag}(h:eI P w be b d' off len v):eI P w be (PO b d gg c) d' off len v:=by
 unfold eI at h⊢;unfold PO;by_cases a:d'=d
 .simp[a]
 .simp only[a,cA];cases f:b d' with
  |none=>simp|some x=>
   rw[f]at h;cases x with
   |cells cs=>simp[RX]|br e xs=>simpa[RX]using h
theorem Fb{b:Nat->V Bx}{c:Nat->Nat->V AV}(e:dK w w I I')
  (f:∀off len v x,eI P w be b d off len v->c off len=O x->cy w I' v x) {v:ag} (h:bU P w I be b g v r):bU P w I' be (PO b d (g d) c) g v (jx d (g d) c r):=by
 have i:∀d',g d'<g d'∨(g d'=g d'/\fy P w w be be b (PO b d (g d) c) d'):=λd'=>.inr ⟨rfl,λh=>⟨(LY h).2,rfl⟩,λoff len v h=>RY h⟩;cases r with
 |view d' gg off len=>
  by_cases a:d'=d/\gg=g d
  .obtain ⟨rfl,rfl⟩:=a;simp only[jx,and_self,cm];cases j:c off len with
   |none=>trivial|some x=>exact f off len v x (h.2 rfl) j
  .simp only[jx,a,cA]
   grind [bU.eP]
 |_=>exact bU.eP (w:=w) (w':=w) e i h
theorem aJ.conv (h:aJ P E w0 I0 n s a w I be) (d:Nat) (g:aJ P E w0 I0 n {s with b:=b8 s.b d Y,a:=a',u:=u'} a w I' be) (c:Nat->Nat->V AV) (q:dK w w I I')
  (G:∀off len v x,eI P w be s.b d off len v->c off len=O x->cy w I' v x):aJ P E w0 I0 n {s.cv d c with a:=a',u:=u'} a w I' be:=by
 have p:∀d',PO s.b d (s.g d) c d'≠Y->b8 s.b d Y d'≠Y:=λd' H=>by grind [LY,aO]
 refine⟨g.since,g.size,g.defers,λt Q=>Fb q G (h.ct t Q),λd' x R=>?_,λk J B f l=>g.inj k J B (p k f) (p J l),λk B f=>g.bR k B (p k f),λk bo f l m=>g.ru k bo f l (p k m),?_⟩
 .have K:PO s.b d (s.g d) c d'=O x:=R;obtain⟨H,_⟩:=LY (by grind:PO s.b d (s.g d) c d'≠Y);simp only[PO,H,cA,c8]at K;obtain⟨y,S,rfl⟩:=K;have L:=h.bD d' y S;cases y with
  |cells cs=>obtain⟨B,cur,t,f,l,m,o⟩:=L;refine⟨B,cur,t,f,l,by grind,λj r N=>?_⟩;simp only[gu,c8]at N;obtain⟨T,U,rfl⟩:=N;exact Fb q G (o j T U)|br e ys=>
   obtain⟨f,l,m,o⟩:=L;refine⟨f,l,m,?_⟩;cases X:be d' with
   |none=>grind|some B=>rw[X]at o;obtain⟨cur,cap,q1,z,A,C,D⟩:=o;exact⟨cur,cap,q1,z,A,C,λi j x c f l=>(D i j x c f l).mono q⟩
 .refine ⟨g.aZ.h7,g.aZ.inj,λi B f l=>?_,g.aZ.un,g.aZ.ro⟩;obtain⟨q1,z,A,C,D⟩:=g.aZ.bR i B f l;exact⟨q1,z,A,C,λ⟨k,m,o⟩=>D ⟨k,p k m,o⟩⟩
theorem uy{e:Nat}(b:s.b d=O (.br e xs))(h:ko P E w0 I0 n s a w):ko P E w0 I0 n (s.cv d λoff len=>O (.sl ((xs.drop off).take len))) a w:=by obtain⟨I,be,h⟩:=h;have g:=h.Jh d;have f:dK w w I (I.plus λp=>∃B,s.b d≠Y/\be d=O B/\p.block=B):=.plus _ _ _;refine⟨_,be,h.conv (a':=s.a) (u':=s.u) d g (λoff len=>O (.sl ((xs.drop off).take len))) f λoff len v x hv c=>?_⟩;injection c with c;subst c;exact vG b (h.bD d _ b) hv f (λB i p j=>.inr ⟨B,by simp[b],i,j⟩)
def qE(i sz:Nat)(off len:Nat):V AV:=if off=0 then O (.view i sz len)else Y
theorem BM(h:aJ P E w0 I0 n s a w I be){e B:Nat}(b:s.b d=O (.br e xs))(c:be d=O B){v:ag}(hv:eI P w be s.b d 0 len v):cy w (I.ri i B) v (.view i (P.cellsOf e) len):=by
 unfold eI at hv;simp only[b,c]at hv;obtain⟨q,cur,cap,A,f,l,rfl,r⟩:=hv;obtain⟨m,_,_,g⟩:=h.bD d _ b;rw[c]at g;obtain⟨t,j,q1,o,u,x,_⟩:=g;rw[f]at q1;injection q1 with q1;injection q1 with q1 _;subst q1;have k:j=cap:=lJ m (o.symm.trans l);subst k;have p:(I.ri i B).ar i=O B:=by simp[aA.ri]
 exact cy.view i (P.cellsOf e) len B (j-0) e cur A p f (by grind) (by grind) (λk=>by grind)
theorem LZ{e:Nat}(hi:i%1000<2)(f:s.b d=O (.br e []))(h:ko P E w0 I0 n s a w):ko P E w0 I0 n (s.cv d (qE i sz)) a w:=by
 obtain⟨I,be,h⟩:=h;refine⟨I,be,h.conv d (h.drop d) _ (dK.refl w I) λoff len v x hv b=>?_⟩;unfold qE at b;split at b
 .rename_i h0;subst h0;injection b with b;subst b;unfold eI at hv;simp only[f]at hv;obtain⟨m,hv⟩:=hv;have:len=0:=by grind
  subst this;cases c:be d with
  |none=>rw[c]at hv;obtain ⟨A,rfl⟩:=hv;exact .lE i sz A 0 (eM _) hi|some B=>rw[c]at hv;obtain⟨cur,cap,A,g1,g2,rfl,_⟩:=hv;obtain⟨j,_,_,g⟩:=h.bD d _ f;rw[c]at g;obtain⟨o,k,q1,l,p,_⟩:=g;rw[g1]at q1;cases q1;have q:k=cap:=lJ j (l.symm.trans g2);exact .lE i sz A _ M hi
 .cases b
theorem Ji(t:Nat){e:Nat}(hi:i%1000<2)(o:s.r t=.view d gg 0 len)(p:gg=s.g d)(j:s.b d=O (.br e []))(h:ko P E w0 I0 n s a w):
  ko P E w0 I0 n {s with r:=b8 s.r t (.val (.view i sz 0)),b:=b8 s.b d Y} a w:=by
 obtain⟨I,be,h⟩:=h;have c:=h.drop d;refine⟨I,be,c.since,c.size,c.defers,λt' k=>?_,c.bD,c.inj,c.bR,c.ru,c.aZ⟩;by_cases l:t'=t
 .subst l;have f:=h.ct t' k;rw[o]at f;simp only[ch];have hv:=f.2 p;unfold eI at hv;simp only[j]at hv;obtain⟨y,hv⟩:=hv;have q:len=0:=by grind
  subst q;cases g:be d with
  |none=>rw[g]at hv;obtain ⟨A,hv⟩:=hv;rw[hv];exact cy.lE i sz A 0 (eM _) hi|some B=>rw[g]at hv;obtain⟨cur,cap,A,g1,g2,hv,_⟩:=hv;obtain⟨u,_,_,m⟩:=h.bD d _ j;rw[g]at m;obtain⟨z,v,q1,x,C,_⟩:=m;rw[g1]at q1;cases q1;have D:v=cap:=lJ u (x.symm.trans g2);rw[hv];exact cy.lE i sz A _ M hi
 .have f:=c.ct t' k;simpa only[aO _ _ l]using f
theorem PQ(f:E.cT=F){e:Nat}(b:s.b d=O (.br e xs))(c:s.u i=F)(l:xs≠[])(h:ko P E w0 I0 n s a w):
  ko P E w0 I0 n {s.cv d (qE i (P.cellsOf e))with a:=b8 s.a i (O (.br e xs)),u:=b8 s.u i W} a w:=by
 obtain⟨I,be,h⟩:=h;cases g:be d with
 |none=>
  obtain⟨_,_,_,m⟩:=h.bD d _ b
  grind
 |some B=>
  have j:=h.Jg f i c d b g;have k:dK w w I (I.ri i B):=.ri (h.aZ.un i c);refine⟨_,be,h.conv d j _ k λoff len v x hv o=>?_⟩
  grind [qE,BM]
theorem L6(m:E.cT=F)(t:Nat){e:Nat}(o:s.r t=.view d gg 0 len)(p:gg=s.g d)(g:s.b d=O (.br e xs))(q:s.u i=F)(v:xs≠[])(h:ko P E w0 I0 n s a w):
  ko P E w0 I0 n {s with r:=b8 s.r t (.val (.view i (P.cellsOf e) len)),b:=b8 s.b d Y,a:=b8 s.a i (O (.br e xs)),u:=b8 s.u i W} a w:=by
 obtain⟨I,be,h⟩:=h;cases j:be d with
 |none=>
  obtain⟨_,_,_,x⟩:=h.bD d _ g
  grind
 |some B=>
  have c:=h.Jg m i q d g j;refine⟨_,be,c.since,c.size,c.defers,λt' k=>?_,c.bD,c.inj,c.bR,c.ru,c.aZ⟩;by_cases l:t'=t
  .subst l;have f:=h.ct t' k;rw[o]at f;simp only[ch];exact BM h g j (f.2 p)
  .have f:=c.ct t' k;simpa only[aO _ _ l]using f
end
section
variable{P:ai}{E:cd}{w0:af}{I0:aA}{n:Nat}{o:aC}{s:St}
theorem vY(a:P.underlying t=O (.pointer e))(p:V bY)(w:af):(Op.equal t (.pointer p) (.pointer Y)).run P w=.ok p.isNone w:=by
 have h:∀d:Nat,(Op.equalIn (d+1) t (.pointer p) (.pointer Y)).run P w=.ok p.isNone w:=λd=>by cases p<;>simp[Op.equalIn,eH a]
 exact h 9999
theorem vZ{k:an}(a:P.underlying t=O (.map k e))(p:V Nat)(w:af):(Op.equal t (.map p) (.map Y)).run P w=.ok p.isNone w:=by
 have h:∀d:Nat,(Op.equalIn (d+1) t (.map p) (.map Y)).run P w=.ok p.isNone w:=λd=>by cases p<;>simp[Op.equalIn,eH a]
 exact h 9999
theorem v7{x:ah}(d:o.op=.binOp op t x y t')(g:ba n o=W)(l:P.underlying t=O (.pointer e))(h:op=.eql∨op=.neq)(m:s.ev y=.val (.fl (.pointer Y)))
  (q:∀(w:af)(I:aA)(be:Nat->V Nat)(v:ag),bU P w I be s.b s.g v (s.ev x)->∃p:V bY,v=.pointer p/\p.isNone=b):dZ P E w0 I0 n o s (.val (.fl (.bool (if op=.eql then b else !b)))):=by
 intro a w I be i;obtain⟨p,hv,j⟩:=q w I be _ (aM g (x:=x) (by simp[d,Op.operands]) i);have c:=aM g (x:=y) (by simp[d,Op.operands]) i;rw[m]at c;have c:=bV c;have r:=vY l p w;refine⟨.bool (if op=.eql then b else !b),?_,cy.fl _ rfl⟩;have k:∀z,(eqGuard op t x z (.pointer p) (.pointer Y)).run P w=.ok () w:=λz=>by rcases h with rfl|rfl<;>rfl
 rcases h with rfl|rfl
 .have f:(binOp .eql t (.pointer p) (.pointer Y)).run P w=.ok (.bool p.isNone) w:=by grind [binOp,cx,cL,cW]
  simp only[execOp,d,hv,c,cx,k,cL,f,cW,cm,j]
 .have f:(binOp .neq t (.pointer p) (.pointer Y)).run P w=.ok (.bool (!p.isNone)) w:=by grind [binOp,cx,cL,cW]
  simp only[execOp,d,hv,c,cx,k,cL,f,cW,reduceCtorEq,cA,j]
theorem GU{k:an}{x:ah}(d:o.op=.binOp op t x y t')(g:ba n o=W)(m:P.underlying t=O (.map k e))(h:op=.eql∨op=.neq)(q:s.ev y=.val (.fl (.map Y)))
  (r:∀(w:af)(I:aA)(be:Nat->V Nat)(v:ag),bU P w I be s.b s.g v (s.ev x)->∃p:V Nat,v=.map p/\p.isNone=b):dZ P E w0 I0 n o s (.val (.fl (.bool (if op=.eql then b else !b)))):=by
 intro a w I be i;obtain⟨p,hv,j⟩:=r w I be _ (aM g (x:=x) (by simp[d,Op.operands]) i);have c:=aM g (x:=y) (by simp[d,Op.operands]) i;rw[q]at c;have c:=bV c;have u:=vZ m p w;refine⟨.bool (if op=.eql then b else !b),?_,cy.fl _ rfl⟩;have l:∀z,(eqGuard op t x z (.map p) (.map Y)).run P w=.ok () w:=λz=>by rcases h with rfl|rfl<;>rfl
 rcases h with rfl|rfl
 .have f:(binOp .eql t (.map p) (.map Y)).run P w=.ok (.bool p.isNone) w:=by grind [binOp,cx,cL,cW]
  simp only[execOp,d,hv,c,cx,l,cL,f,cW,cm,j]
 .have f:(binOp .neq t (.map p) (.map Y)).run P w=.ok (.bool (!p.isNone)) w:=by grind [binOp,cx,cL,cW]
  simp only[execOp,d,hv,c,cx,l,cL,f,cW,reduceCtorEq,cA,j]
theorem ij{x:ah}(b:o.op=.nilCheck x)(c:ba n o=W)(e:∀(w:af)(I:aA)(be:Nat->V Nat)(v:ag),bU P w I be s.b s.g v (s.ev x)->∃p:bY,v=.pointer (O p)):dZ P E w0 I0 n o s (s.ev x):=by
 intro a w I be d;have f:=aM c (x:=x) (by simp[b,Op.operands]) d
 grind [execOp,cW]
theorem v8{w:af}{I:aA}{v:ag}(h:cy w I v (.ptr i off)):∃p:bY,v=.pointer (O p):=by grind [mj]
theorem BN{w:af}{I:aA}{v:ag}{cs:Z AV}(h:cy w I v (.ref cs)):∃p:bY,v=.pointer (O p):=by
 cases h with
 |ref p cs a b c d=>grind
theorem wa{w:af}{I:aA}{v:ag}(h:cy w I v (.mp i)):∃B,I.ar i=O B/\v=.map (O B):=by
 cases h with
 |mp i B h=>grind
theorem zh{x:ah}(d:o.op=.binOp op t x y t')(l:ba n o=W)(g:op=.eql∨op=.neq)(q:y=.const (.slice Y 0 0))(u:P.underlying t=O (.slice e))(B:bz (s.ev x)=O (.sl xs)){K:St->Prop}
  (C:∀b:aa,(b=W->xs=[])->K (s.put o.dst (.val (.fl (.bool (if op=.eql then b else !b)))))):dL P E w0 I0 n o s K:=by
 subst q;rintro a w ⟨I,be,h⟩ H;have i:=dW (aM l (x:=x) (by simp[d,Op.operands]) h) B;have sl:∃(A:V bY)(m c:Nat),a.eval x=.slice A m c/\(A.isNone=W->xs=[]):=by
  generalize a.eval x=v at i;cases i with
  |fc c=>grind|sl p m cap sz xs J L N Q hsz R S T=>grind
 obtain⟨A,m,c,hv,D⟩:=sl;have j:∀z,(eqGuard op t x z (.slice A m c) (.slice Y 0 0)).run P w=.ok () w:=λz=>by rcases g with rfl|rfl<;>rfl
 have G:(execOp a.eval o).run P w=.ok (.value (.bool (if op=.eql then A.isNone else !A.isNone))) w:=by
  have U:=Et u A m c w;have k:a.eval (.const (.slice Y 0 0))=.slice Y 0 0:=rfl;rcases g with rfl|rfl
  .have f:(binOp .eql t (.slice A m c) (.slice Y 0 0)).run P w=.ok (.bool A.isNone) w:=by grind [binOp,cx,cL,cW]
   simp only[execOp,d,hv,k,cx,j,cL,f,cW,cm]
  .have f:(binOp .neq t (.slice A m c) (.slice Y 0 0)).run P w=.ok (.bool (!A.isNone)) w:=by grind [binOp,cx,cL,cW]
   simp only[execOp,d,hv,k,cx,j,cL,f,cW,reduceCtorEq,cA]
 exact fS G ⟨_,⟨I,be,h.put o.dst (r:=.val (.fl (.bool (if op=.eql then A.isNone else !A.isNone)))) (cy.fl _ rfl)⟩,C _ D⟩
end
end Go.Ev
namespace Go.Ev
open Go Go.MapKept
variable{t kt vt e:an}{i:Nat}{d:TypeDesc}{es:Z (AV×AV)}{k:ag}{p y:ah}{xs:Z AV}
section
variable{P:ai}{E:cd}{w0:af}{I0:aA}{n:Nat}{o:aC}{s:St}{K:St->Prop}{a:Act}{w w':af}{I:aA}{be:Nat->V Nat}
def St.ri (s:St) (i:Nat) (x:Ob):St:={s with a:=b8 s.a i (O x),u:=b8 s.u i W}
theorem xO(P:ai){v:ag}{x:AV}(h:cy w I v x):v.cells.size=x.cells.length/\∀(j:Nat)(c:AV),x.cells[j]?=O c->cy w I (v.cells.getD j undef) c:=by have a:=kV (P:=P) (be:=λ_=>Y) (b:=λ_=>Y) (g:=λ_=>0) (r:=.val x) (cs:=x.cells.map .val) h rfl (λ_ _ _ _ _ h=>by cases h) (λ_ _ _ _ h=>by cases h);refine⟨by grind,λj c d=>?_⟩;have:=a.2 j (.val c) (by simp[d]);exact this
theorem Fc(P:ai){v:ag}{x:AV}(h:cy w I v x)(a:x.wf):∀u∈v.cells.toList,u.oneCell'=W:=qv (P:=P) (be:=λ_=>Y) (b:=λ_=>Y) (g:=λ_=>0) (r:=.val x) h a (λ_ _ _ _ _ h=>by cases h) (λ_ _ _ _ h=>by cases h)
theorem BO(f:o.op=.alloc t)(g:E.cT=F)(h:s.u i=F){d:Z AV}(k:ZC P t d)
  (l:K ((s.ri i (.cells d)).put o.dst (.val (.ptr i 0)))):dL P E w0 I0 n o s K:=by
 rintro a w ⟨I,be,m⟩ A;obtain⟨ti,b,hi,p,q,B,u,v⟩:=k;have x:(execOp a.eval o).run P w=.ok (.value (.pointer (O ⟨w.heap.size,0,Y⟩))) (w.alloc (.cells b.cells t)):=by simp[execOp,f,Instr.alloc,zeroValue,typeInfo,hi,p,newVar,newRow]
 have y:=m.RL (w':=w.alloc (.cells b.cells t)) g i h (.cells d) (ob:=.cells b.cells t) rfl rfl rfl rfl (λhw _=>
  ⟨b.cells,t,hw,u.symm,λj c z=>by
   have e:j<b.cells.size:=by grind
   have hv:b.cells[j]?=O b.cells[j]:=by simp[e]
   have:=xH (w:=w.alloc (.cells b.cells t)) (I:=I.ri i w.heap.size) (rB.1 q _ (kQ hv)) (v j _ c hv z);simpa[e]using this⟩)
 refine fS x ⟨_,⟨_,be,y.put o.dst (r:=.val (.ptr i 0)) ?_⟩,l⟩;exact cy.ptr i 0 w.heap.size (by simp[aA.ri])
theorem wb(g:o.op=.alloc t){d:Nat}(h:o.dst=O d){e:Z cH}{i:TypeInfo}{b:ag}(hi:P.info? t=O i)(hz:i.zero=O b)(k:(b.cells.all λv=>v.oneCell')=W)(l:e.length=b.cells.size)
  (m:∀(j:Nat)(v:ag)(r:cH),b.cells[j]?=O v->e[j]?=O r->r=cB v∨(v=.slice Y 0 0/\r=.val .hk)) (p:K (s.ep d e)):dL P E w0 I0 n o s K:=by
 rintro a w ⟨I,be,q⟩ A;have u:(execOp a.eval o).run P w=.ok (.value (.pointer (O ⟨w.heap.size,0,Y⟩))) (w.alloc (.cells b.cells t)):=by simp[execOp,g,Instr.alloc,zeroValue,typeInfo,hi,hz,newVar,newRow]
 refine fS u ⟨_,⟨I,b8 be d (O w.heap.size),?_⟩,p⟩;rw[h];refine q.ep (w':=w.alloc (.cells b.cells t)) d rfl rfl rfl rfl _ l.symm λj c x=>?_;have y:j<b.cells.size:=by grind
 have hv:b.cells[j]?=O b.cells[j]:=by simp[y]
 have f:=rB.1 k _ (kQ hv);simp only[my,hv,gh];rcases m j _ c hv x with rfl|⟨z,rfl⟩
 .refine vE ?_;generalize b.cells[j]=v at f;cases v<;>first|rfl|(simp[Value.oneCell']at f)
 .rw[z];exact cy.hk Y
theorem NW(t:Nat)(g:s.r t=.val .hk)(h:ko P E w0 I0 n s a w):ko P E w0 I0 n {s with r:=b8 s.r t (.bF [])} a w:=by
 obtain⟨I,be,h⟩:=h;refine⟨I,be,h.since,h.size,h.defers,λb e=>?_,h.bD,h.inj,h.bR,h.ru,h.aZ⟩;by_cases f:b=t
 .subst f;have d:=h.ct b e;rw[g]at d;simp only[ch];generalize a.tmps.getD b undef=v at d;cases(show cy w I v .hk from d)with
  |hk A=>
   refine⟨?_,A,rfl⟩;cases A with
   |none=>exact .fc 0|some a=>exact .sl a 0 0 0 [] (λ_ _=>undef) rfl (bq _) (eM _) (λi x h=>by simp at h) (λi j x c h=>by simp at h) (λi j x c h=>by simp at h) (λi j x c h=>by simp at h)
 .simpa only[aO _ _ f]using h.ct b e
theorem tK{x:ah}(f:o.op=.call {callee:=.builtin .len,args:=#[x],argTypes:=#[t]})(g:ba n o=W)(h:P.underlying t=O (.slice e)){m:Nat}
  (d:(∃i sz,s.ev x=.val (.view i sz m))∨(s.ev x=.val .hk/\m=0)):dZ P E w0 I0 n o s (.val (.fl (.int .i64 m))):=by
 intro a w I be j;have b:=aM g (x:=x) (by simp[f,Op.operands,Call.operands]) j;refine⟨.int .i64 m,?_,.fl _ rfl⟩;obtain⟨cs,k⟩:=fC f a;rw[k];simp only[NM,gb,zb];have hv:∃A c,a.eval x=.slice A m c:=by
  rcases d with⟨i,sz,d⟩|⟨d,rfl⟩
  .rw[d]at b;generalize a.eval x=v at b;cases(show cy w I v (.view i sz m)from b)with
   |view=>grind|lE=>grind
  .rw[d]at b;generalize a.eval x=v at b;cases(show cy w I v .hk from b)with
   |hk A=>grind
 obtain⟨A,c,hv⟩:=hv;simp[builtin,Builtin.len_,eH h,hv,goInt]
theorem GV{x:ah}(b:o.op=.box t x)(f:ba n o=W)(g:E.cT=F)(h:s.u i=F){v:AV}(k:bz (s.ev x)=O v)
  (l:K ((s.ri i (.cells v.cells)).put o.dst (.val (.ptr i 0)))):dL P E w0 I0 n o s K:=by
 rintro a w ⟨I,be,d⟩ z;have m:=dW (aM f (x:=x) (by simp[b,Op.operands]) d) k;have p:(execOp a.eval o).run P w=.ok (.value (.pointer (O ⟨w.heap.size,0,Y⟩))) (w.alloc (.cells (a.eval x).cells t)):=by simp[execOp,b,Instr.box,newVar,newRow]
 have e:=xO P m;have q:=d.RL (w':=w.alloc (.cells (a.eval x).cells t)) g i h (.cells v.cells) (ob:=.cells (a.eval x).cells t) rfl rfl rfl rfl (λhw u=>⟨(a.eval x).cells,t,hw,e.1,λj c y=>(e.2 j c y).mono u⟩);refine fS p ⟨_,⟨_,be,q.put o.dst (r:=.val (.ptr i 0)) ?_⟩,l⟩;exact cy.ptr i 0 w.heap.size (by simp[aA.ri])
theorem GW(b:o.op=.makeMap t Y)(c:E.cT=F)(d:s.u i=F)
  (f:K ((s.ri i (.map [])).put o.dst (.val (.mp i)))):dL P E w0 I0 n o s K:=by
 rintro a w ⟨I,be,g⟩ m;have k:(execOp a.eval o).run P w=.ok (.value (.map (O w.heap.size))) {w with heap:=w.heap.push (.map #[] 0)}:=by simp[execOp,b,Instr.makeMap,newObj,Sem.run]
 have l:=g.RL (w':={w with heap:=w.heap.push (.map #[] 0)}) c i d (.map []) (ob:=.map #[] 0) rfl rfl rfl rfl (λhw p=>⟨#[],0,hw,rfl,λ_ h=>(by cases h),λj x h=>by simp at h,λj e h=>by simp at h⟩);refine fS k ⟨_,⟨_,be,l.put o.dst (r:=.val (.mp i)) ?_⟩,f⟩;exact cy.mp i w.heap.size (by simp[aA.ri])
theorem wc{B:Nat}{cur a:Array ag}(b:w.heap[B]?=O (.cells cur t (0,0)))(hsz:a.size=cur.size):∀B',gZ w (w.setRow B a) B':=by refine sI (λk c _=>?_) b (pA w B cur a t (0,0) b) hsz;exact og w B k a c
theorem Eu{x:ah}(e:o.op=.store t p x)(f:ba n o=W)(u:o.dst=Y){off:Nat}(y:E.ro i=Y){cs:Z AV}{v:AV}(z:s.ev p=.val (.ptr i off))(g:s.a i=O (.cells cs))(A:bz (s.ev x)=O v)(C:v.wf)(h0:0<P.cellsOf t)
  (D:v.cells.length=P.cellsOf t) (h:off+v.cells.length<=cs.length) (H:K {s with a:=b8 s.a i (O (.cells (bh cs off v.cells)))}):dL P E w0 I0 n o s K:=by
 rintro a w ⟨I,be,b⟩ X;have l:=aM f (x:=p) (by simp[e,Op.operands]) b;have m:=dW (aM f (x:=x) (by simp[e,Op.operands]) b) A;rw[z]at l;obtain⟨B,q,e1⟩:=mj (show cy w I (a.eval p) (.ptr i off)from l);obtain⟨B',d,cur,T,hw,J,a0⟩:=b.aZ.h7 i _ g;rw[q]at d;injection d with d;subst d;obtain⟨L,b0⟩:=xO P m;have N:=Fc P m C;have Q:off+(a.eval x).cells.size<=cur.size:=M;have R:=jJ (P:=P) (t:=t) hw (by rw[L,D]) h0 N Q;have hsz:(bh cur.toList off (a.eval x).cells.toList).toArray.size=cur.size:=by grind [ug,bI]
 refine kp (w':=w.setRow B (bh cur.toList off (a.eval x).cells.toList).toArray) ?_ ⟨_,⟨I,be,?_⟩,H⟩
 .simp[execOp,e,e1,Instr.storeAt,Instr.sureAddr,R]
 .rw[u];refine b.LX i y (.cells (bh cs off v.cells)) B (by simp[g]) q rfl rfl rfl (setRow_size w B _) (λk S=>og w B k _ S) (wc hw hsz) (λG=>⟨_,T,pA w B cur _ T (0,0) hw,by rw[hsz,bI h,J],λj c r=>?_⟩);refine cy.mono G ?_;rw[cM h]at r;rw[fT (by grind)];have U:(a.eval x).cells.toList.length=v.cells.length:=by grind
  rw[U];by_cases q1:j<off
  grind
  .rw[ao q1]at r⊢;by_cases c0:j<off+v.cells.length;simp_all
   grind
theorem xP{x:ah}(m:o.op=.store t p x)(D:ba n o=W)(a0:o.dst=Y){j k:Nat}(b0:E.ro i=Y){v y:AV}(c0:s.ev p=.val (.ptr i (j*P.cellsOf e+k)))(H:s.a i=O (.br e xs))
  (d0:bz (s.ev x)=O v) (q:v.wf) (h0:0<P.cellsOf t) (e0:v.cells.length=P.cellsOf t) (r:xs[j]?=O y) (u:k+v.cells.length<=y.cells.length) (J:y.isAgg=W∨(k=0/\v.isAgg=F))
  (f0:K {s with a:=b8 s.a i (O (.br e (xs.set j (gU y k v.cells))))}):dL P E w0 I0 n o s K:=by
 rintro a w ⟨I,be,h⟩ y0;have L:=aM D (x:=p) (by simp[m,Op.operands]) h;have N:=dW (aM D (x:=x) (by simp[m,Op.operands]) h) d0;rw[c0]at L;obtain⟨B,Q,e1⟩:=mj (show cy w I (a.eval p) (.ptr i (j*P.cellsOf e+k))from L);obtain⟨g0,i0⟩:=xO P N;have j0:=Fc P N q;obtain⟨B',l,k0,A0,R,cur,cap,hw,B0,l0,C0,m0⟩:=h.aZ.h7 i _ H;rw[Q]at l;injection l with l;subst l;have S:j<xs.length:=(cr.1 r).1;have D0:=(R j y r).1;have n0:(j+1)*P.cellsOf e<=cap*P.cellsOf e:=hR _ M;rw[kS,uk]at n0;have o0:j*P.cellsOf e+k+(a.eval x).cells.size<=cur.size:=M;have p0:=jJ (P:=P) (t:=t) hw (by rw[g0,e0]) h0 j0 o0;have q0:(bh cur.toList (j*P.cellsOf e+k) (a.eval x).cells.toList).toArray.size=cur.size:=by grind [ug,bI]
 have E0:(xs.set j (gU y k v.cells)).length=xs.length:=aH;have r0:(gU y k v.cells).cells=bh y.cells k v.cells/\(gU y k v.cells).wf:=by
  cases T:y with
  |agg cs=>
   have z:=(R j y r).2;rw[T]at z u;refine⟨rfl,λc d=>?_⟩;simp only[gU,AV.cells,bh,fK]at d;rcases d with(d|d)|d
   .exact z c (AY d)
   .exact q c d
   .exact z c (Lx d)
  |_=>
   rw[T]at J u;obtain⟨rfl,U⟩:=J.resolve_left (by simp[AV.isAgg]);have:v.cells=[v]:=by cases v<;>first|rfl|(simp[AV.isAgg]at U)
   rw[this];refine⟨?_,?_⟩
   .cases v<;>first|rfl|(simp[AV.isAgg]at U)
   .simpa[gU]using q
 refine kp (w':=w.setRow B (bh cur.toList (j*P.cellsOf e+k) (a.eval x).cells.toList).toArray) ?_ ⟨_,⟨I,be,?_⟩,f0⟩
 .simp[execOp,m,e1,Instr.storeAt,Instr.sureAddr,p0]
 .rw[a0];refine h.LX i b0 (.br e (xs.set j (gU y k v.cells))) B (by simp[H]) Q rfl rfl rfl (setRow_size w B _) (λk s0=>og w B k _ s0) (wc hw q0) (λG=>⟨k0,by grind,λi2 X b=>?_,?_⟩)
  .rw[y9]at b;split at b
   .rename_i f;subst f;try rw[aq S]at b
    grind [bI]
   grind
  .refine ⟨_,cap,pA w B cur _ e (0,0) hw,by grind,l0,by grind,λi2 g X c b f=>?_⟩;refine cy.mono (w:=w) (I:=I) G ?_;rw[fT (by grind)];have t0:(a.eval x).cells.toList.length=v.cells.length:=by grind
   rw[t0];rw[y9]at b;split at b
   .rename_i A;subst A;try rw[aq S]at b
    injection b with b;subst b;rw[r0.1,cM u]at f;by_cases q1:g<k
    grind
    .rw[ao q1]at f;rw[ao M];by_cases u0:g<k+v.cells.length
     .rw[aq u0]at f;rw[aq M];have:=i0 _ c f;have x0:j*P.cellsOf e+g-(j*P.cellsOf e+k)=g-k:=M;rw[x0];simpa[IV]using this
     grind
   .rename_i A;have G0:g<P.cellsOf e:=by grind
    have H0:=m0 i2 g X c b f;rcases Nat.lt_or_gt_of_ne A with C|C
    .have:(j+1)*P.cellsOf e<=i2*P.cellsOf e:=hR _ C
     grind
    .have:(i2+1)*P.cellsOf e<=j*P.cellsOf e:=hR _ C
     grind
def we(d:TypeDesc)(k:ag):Z (AV×AV)->Nat->V (V (Nat×AV))
 |[],_=>O Y|(.fl k',v)::es,i=>match Instr.sameNow d k k' with
  |some W=>O (O (i,v))|some F=>we d k es (i+1)
  |none=>Y
 |_::_,_=>Y
theorem o7{d:TypeDesc}{k:ag}:∀{es:Z (AV×AV)}{c:Z MapEntry}{i:Nat}{r:V (Nat×AV)},c.length=es.length->(∀(j:Nat)(e:AV×AV),es[j]?=O e->∃x,c[j]?=O x/\cy w I x.key e.1/\cy w I x.val e.2)->we d k es i=O r->
  match r with
  |none=>Instr.findNow d k c i=O Y|some (j,av)=>i<=j/\∃x,c[j-i]?=O x/\Instr.findNow d k c i=O (O (j,x.val))/\cy w I x.val av/\(es[j-i]?).map (·.2)=O av
 |[],[],i,r,f,h,a=>by simp only[we,aN]at a;subst a;rfl|[],_::_,i,r,f,h,a=>by simp at f
 |e::es,[],i,r,f,h,a=>by simp at f|(g,v0)::es,x::c,i,r,f,h,a=>by
  obtain⟨q,l,m,s⟩:=h 0 (g,v0) rfl;simp only[ic,aN]at l;subst l;have n:∀(j:Nat)(e:AV×AV),es[j]?=O e->∃x,c[j]?=O x/\cy w I x.key e.1/\cy w I x.val e.2:=λj e t=>by
   obtain⟨y,q1,u⟩:=h (j+1) e (by grind)
   grind
  cases g with
  |fl k'=>
   have o:=bV m;simp only[we]at a;simp only[Instr.findNow];rw[o];cases p:Instr.sameNow d k k' with
   |none=>grind|some b=>
    rw[p]at a;cases b with
    |true=>grind|false=>
     have:=o7 (i:=i+1) (by grind) n a
     grind
  |_=>simp[we]at a
theorem L7{z:ag}(h:(z.cells.all λv=>v.oneCell')=W):cy w I z (oo z):=by
 cases z with
 |agg cs=>refine .agg cs _ aH λj c a=>?_;have:=RA (w:=w) (I:=I) h j (c:=c) (by simpa[oo,AV.cells]using a);simpa[Value.cells]using this|_=>
  simp only[Value.cells,rB]at h;exact me (h _ aH)
theorem GX{x:ah}{g:aa}(m:o.op=.lookup t x y g)(G:ba n o=W)(H:P.underlying t=O (.map kt vt))(J:P.underlying kt=O d)
  (l:(∃i c,s.ev x=.val (.mp i)/\s.a i=O (.map es c))∨(s.ev x=.val (.fl (.map Y))/\es=[])) (X:s.ev y=.val (.fl k)) (o0:IsKey d k) {r:V (Nat×AV)} (a0:we d k es 0=O r) {z:AV} (b0:oq P vt=O z):
  dZ P E w0 I0 n o s (if g then .gw [.val ((r.map (·.2)).getD z),.val (.fl (.bool r.isSome))]else .val ((r.map (·.2)).getD z)):=by
 intro a w I be A;have u:=aM G (x:=x) (by simp[m,Op.operands]) A;have K:=aM G (x:=y) (by simp[m,Op.operands]) A;rw[X]at K;have L:=bV K;obtain⟨ti,C,hi,c0,d0,p0,rfl⟩:=rM b0;have hzero:(zeroValue vt).run P w=.ok C w:=by simp[zeroValue,typeInfo,hi,c0]
 have e0:∃h:Array MapEntry,h.size=es.length/\(∀(j:Nat)(e:AV×AV),es[j]?=O e->∃x,h.toList[j]?=O x/\cy w I x.key e.1/\cy w I x.val e.2)/\
   ((a.eval x=.map Y/\h=#[])∨∃B clock,a.eval x=.map (O B)/\(getObj B).run P w=.ok (.map h clock) w):=by
  rcases l with⟨i,c,l,f0⟩|⟨l,rfl⟩
  .rw[l]at u;obtain⟨B,q0,e1⟩:=wa (show cy w I (a.eval x) (.mp i)from u);obtain⟨B',r0,h,clock,q1,N,s0,Q,t0⟩:=A.aZ.h7 i _ f0
   grind [getObj,Sem.run]
  .rw[l]at u;exact⟨#[],rfl,λj e g0=>by simp at g0,.inl ⟨bV u,rfl⟩⟩
 obtain⟨h,hsz,h0,i0⟩:=e0;have R:=o7 (i:=0) (by grind) h0 a0;have j0:∃v b,(Instr.lookup t (a.eval x) (a.eval y) g).run P w=.ok (if g then .tuple #[v,.bool b]else v) w/\cy w I v ((r.map (·.2)).getD (oo C))/\b=r.isSome:=by
  have S:∀b,(Instr.checkKey b 10000 kt (a.eval y)).run P w=.ok () w:=λb=>by grind [run_checkKey]
  have k0:(Instr.lookup t (a.eval x) (a.eval y) g).run P w=((Instr.findKey kt (a.eval y) h.toList).run P w).andThen λr w'=>Sem.run P (do
    let(v,l0)<-match r with
     |some (_,v)=>pure (v,W)|none=>pure (<-zeroValue vt,F)
    pure (if g then .tuple #[v,.bool l0]else v)) w':=by
   rcases i0 with⟨e1,rfl⟩|⟨B,clock,e1,m0⟩
   .unfold Instr.lookup;simp only[cx,eH H,cL,e1,cW,S];rfl
   .unfold Instr.lookup;simp only[cx,eH H,cL,e1,cW,S,m0];rfl
  rw[k0];cases r with
  |none=>have D:=run_findKey (P:=P) (w:=w) J (k:=k) R;rw[L,D];simp only[cL,cx,hzero,cW];exact⟨C,F,by grind,L7 d0,rfl⟩|some p=>
   obtain⟨j,av⟩:=p;obtain⟨_,n0,q1,N,Q,_⟩:=R;have D:=run_findKey (P:=P) (w:=w) J (k:=k) N;rw[L,D];simp only[cL,cW];exact⟨n0.val,W,by simp_all,Q,rfl⟩
 obtain⟨v,b,T,U,rfl⟩:=j0;cases g with
 |true=>
  refine⟨.tuple #[v,.bool r.isSome],?_,#[v,.bool r.isSome],rfl,rfl,λj q f=>?_⟩
  .simp only[execOp,m,cx,T,cL,cW,cm]
  .match j,f with
   |0,f=>simp at f;subst f;exact U|1,f=>simp at f;subst f;exact cy.fl _ rfl
   |j+2,f=>simp at f
 |false=>refine⟨v,?_,U⟩;simp only[execOp,m,cx,T,cL,cW,jo,cA]
theorem GY{x:ah}(f:o.op=.call {callee:=.builtin .len,args:=#[x],argTypes:=#[t]})(j:ba n o=W)(g:P.underlying t=O (.map kt vt))
  (b:(∃i c,s.ev x=.val (.mp i)/\s.a i=O (.map es c))∨(s.ev x=.val (.fl (.map Y))/\es=[])):dZ P E w0 I0 n o s (.val (.fl (.int .i64 es.length))):=by
 intro a w I be h;have d:=aM j (x:=x) (by simp[f,Op.operands,Call.operands]) h;refine⟨.int .i64 es.length,?_,.fl _ rfl⟩;obtain⟨cs,k⟩:=fC f a;rw[k];simp only[NM,gb,zb];rcases b with⟨i,c,b,l⟩|⟨b,rfl⟩
 .rw[b]at d;obtain⟨B,m,e1⟩:=wa (show cy w I (a.eval x) (.mp i)from d);obtain⟨B',e,p,clock,q1,q,u,v,y⟩:=h.aZ.h7 i _ l;rw[m]at e;injection e with e;subst e;have r:(getObj B).run P w=.ok (.map p clock) w:=by simp[getObj,Sem.run,q1]
  simp[builtin,Builtin.len_,eH g,e1,goInt,r,q]
 .rw[b]at d;have e1:=bV d;simp[builtin,Builtin.len_,eH g,e1,goInt]
theorem GZ{k':ag}(a:IsKey d k)(h:Instr.sameNow d k k'=O W):Instr.sameBits 10000 k' k=W:=by cases d<;>cases k<;>cases k'<;>simp_all[IsKey,Instr.sameNow,Instr.sameBits,bytes_beq]
def VG(d:TypeDesc)(k:ag)(v:AV)(es:Z (AV×AV)):V (Z (AV×AV)):=
 match we d k es 0 with
 |some (O (j,_))=>O (es.set j (.fl k,v))|some Y=>O (es++[(.fl k,v)])
 |none=>Y
theorem wg{d:TypeDesc}{k:ag}:∀{l:Z MapEntry}{i j:Nat}{v:ag},Instr.findNow d k l i=O (O (j,v))->i<=j/\∃x,l[j-i]?=O x/\Instr.sameNow d k x.key=O W
 |[],i,j,v,h=>by simp[Instr.findNow]at h|e::es,i,j,v,h=>by
  simp only[Instr.findNow]at h;cases a:Instr.sameNow d k e.key with
  |none=>grind|some b=>
   rw[a]at h;cases b with
   |true=>grind|false=>
    obtain⟨q1,x,c,f⟩:=wg (i:=i+1) h
    grind
theorem Ak{x z:ah}(l:o.op=.mapUpdate t x y z∨o.op=.insert t x y z)(Q:ba n o=W)(t0:o.dst=Y)(u0:P.underlying t=O (.map kt vt))(a0:P.underlying kt=O d)(x0:E.ro i=Y){J:Z (AV×AV)}{c:V (Z Nat×Nat)}
  (A0:s.ev x=.val (.mp i)) (b0:s.a i=O (.map es c)) (u:s.ev y=.val (.fl k)) (c0:IsKey d k) (d0:Vt k) {v:AV} (B0:bz (s.ev z)=O v) (m:VG d k v es=O J)
  (C0:K {s with a:=b8 s.a i (O (.map J))}):dL P E w0 I0 n o s K:=by
 rintro a w ⟨I,be,D⟩ D0;have R:∀q,q=x∨q=y∨q=z->q∈o.op.operands:=λq E0=>by rcases l with l|l<;>rcases E0 with rfl|rfl|rfl<;>simp[l,Op.operands]
 have e0:=aM Q (x:=x) (R x (.inl rfl)) D;have f0:=aM Q (x:=y) (R y (.inr (.inl rfl))) D;have g0:=dW (aM Q (x:=z) (R z (.inr (.inr rfl))) D) B0;rw[A0]at e0;rw[u]at f0;have G0:=bV f0;obtain⟨B,h0,e1⟩:=wa (show cy w I (a.eval x) (.mp i)from e0);obtain⟨B',L,f,clock,q1,i0,i1,H0,j0⟩:=D.aZ.h7 i _ b0;rw[h0]at L;injection L with L;subst L;have J0:(getObj B).run P w=.ok (.map f clock) w:=by simp[getObj,Sem.run,q1]
 have K0:(Instr.checkKey F 10000 kt (a.eval y)).run P w=.ok () w:=by grind [run_checkKey]
 have j1:∀S,(setObj B S).run P w=.ok () {w with heap:=w.heap.setIfInBounds B S}:=λS=>by simp[setObj,Sem.run,q1]
 have k0:∀(j:Nat)(e:AV×AV),es[j]?=O e->∃x,f.toList[j]?=O x/\cy w I x.key e.1/\cy w I x.val e.2:=λj e g=>by grind
 have L0:B<w.heap.size:=(rr.1 q1).1;have l0:∀(A:Array MapEntry)(C:Nat),(Instr.mapUpdate t (a.eval x) (a.eval y) (a.eval z)).run P w=.ok () {w with heap:=w.heap.setIfInBounds B (.map A C)}->
   (∀{w':af},dK w w' I I->w'.heap[B]?=O (.map A C)->pM P w' I B (.map J))->o.wp P a w (λa' w'=>∃s',ko P E w0 I0 n s' a' w'/\K s') D0:=λA C N0 P0=>by
  have Q0:(w.heap.setIfInBounds B (.map A C))[B]?=O (.map A C):=by simp[L0]
  have R0:∀k,k≠B->(w.heap.setIfInBounds B (.map A C))[k]?=w.heap[k]?:=λk c0=>by grind
  refine kp (w':={w with heap:=w.heap.setIfInBounds B (.map A C)}) ?_ ⟨_,⟨I,be,?_⟩,C0⟩
  .rcases l with l|l<;>simp[execOp,l,N0]
  .rw[t0];refine D.LX i x0 (.map J) B (by simp[b0]) h0 rfl rfl rfl aH R0 (λB' cur t k1 l1=>?_) (λG=>P0 G Q0)
   grind
 have S0:(Instr.mapUpdate t (a.eval x) (a.eval y) (a.eval z)).run P w=((Instr.findKey kt (a.eval y) f.toList).run P w).andThen λr w'=>Sem.run P (do
   match r with
   |some (i,_)=>do
    let key<-Instr.keyThatStays (((f[i]?).map (·.key)).getD (a.eval y)) (a.eval y)
    setObj B (.map (f.modify i λe=>{e with key,val:=a.eval z}) clock)
   |none=>setObj B (.map (f.push {key:=a.eval y,val:=a.eval z,born:=clock}) (clock+1))) w':=by
  unfold Instr.mapUpdate;simp only[cx,eH u0,cL,e1,J0,K0];rfl
 unfold VG at m;split at m
 .rename_i j m1 T;injection m with m;subst m;obtain⟨_,m0,n0,o0,n1,T0⟩:=o7 (i:=0) (w:=w) (I:=I) (by grind) k0 T;simp only[qn]at n0 T0;have p0:=run_findKey (P:=P) (w:=w) a0 (k:=k) o0;obtain⟨_,o1,H,U0⟩:=wg o0;simp only[qn]at H;rw[n0]at H;injection H with H;subst H;have q0:j<f.size:=by grind
  have r0:f[j]?=O m0:=by grind
  refine l0 (f.modify j λe=>{e with key:=k,val:=a.eval z}) clock ?_ λ{w'} G U=>?_
  .rw[S0,G0,p0];simp only[cL,cx,r0,dr,gh];have:(Instr.keyThatStays m0.key k).run P w=.ok k w:=by unfold Instr.keyThatStays;rw[aq (GZ c0 U0)];rfl
   grind [cL]
  .refine ⟨_,clock,U,by simp[i0],(λ_ h=>by cases h),λb y u=>?_,λb e g=>?_⟩
   .have X:∀(b:Nat)(y:MapEntry),(f.modify j λe=>{e with key:=k,val:=a.eval z})[b]?=O y->∃p,f[b]?=O p/\y.born=p.born:=λb y u=>by
     rw[EN]at u
     grind
    obtain⟨p,g1,g2⟩:=X b y u;obtain⟨N,p1⟩:=H0 b p g1;refine⟨by grind,λX0 a1 b1 s1=>?_⟩;obtain⟨t1,g5,u1⟩:=X X0 a1 b1
    grind
   .rw[y9]at g;rw[EN];by_cases s0:j=b
    .subst s0;have c1:j<es.length:=M;simp only[cm,c1,aN]at g;subst g;simp only[cm,r0,dr];exact⟨_,rfl,cy.fl k d0,g0.mono G⟩
    .simp only[s0,cA]at g⊢;obtain⟨p,g1,g2,N⟩:=j0 b e g;exact⟨p,g1,g2.mono G,N.mono G⟩
 .rename_i T;injection m with m;subst m;have d1:=o7 (i:=0) (w:=w) (I:=I) (by grind) k0 T;have p0:=run_findKey (P:=P) (w:=w) a0 (k:=k) d1;refine l0 (f.push {key:=k,val:=a.eval z,born:=clock}) (clock+1) ?_ λ{w'} G U=>?_
  grind [cL]
  .have X:∀(b:Nat)(y:MapEntry),(f.push {key:=k,val:=a.eval z,born:=clock})[b]?=O y->(b<f.size/\f[b]?=O y)∨(b=f.size/\y.born=clock):=λb y u=>by grind
   refine⟨_,clock+1,U,by simp[i0],(λ_ h=>by cases h),λb y u=>?_,λb e g=>?_⟩
   grind
   .by_cases q0:b<es.length
    .rw[oU q0]at g;obtain⟨p,g1,g2,N⟩:=j0 b e g;refine⟨p,?_,g2.mono G,N.mono G⟩
     grind
    .rw[oV M]at g;have f1:b=es.length:=by grind
     subst f1;simp at g;subst g;refine⟨{key:=k,val:=a.eval z,born:=clock},?_,cy.fl k d0,g0.mono G⟩
     grind
 grind
theorem Jj(t:Nat)(d:Nat){e len:Nat}(o:E.ro i=Y)(p:s.r t=.val (.view i (P.cellsOf e) len))(k:s.a i=O (.br e xs))(u:len<=xs.length)(h0:0<len∨2<=i%1000)(h:ko P E w0 I0 n s a w):
  ko P E w0 I0 n {s with r:=b8 s.r t (.view d (s.g d+1) 0 len),b:=b8 s.b d (O (.br e xs)),g:=b8 s.g d (s.g d+1),a:=b8 s.a i Y} a w:=by
 obtain⟨I,be,h⟩:=h;obtain⟨B,q,x,y,z,C⟩:=h.aZ.h7 i _ k;have c:=h.VF i d o k q;refine⟨I,b8 be d (O B),c.since,c.size,c.defers,λj l=>?_,c.bD,c.inj,c.bR,c.ru,c.aZ⟩;by_cases m:j=t
 .subst m;have f:=h.ct j l;rw[p]at f;simp only[ch];refine⟨by simp_all,λ_=>?_⟩;unfold eI;simp only[ch];generalize a.tmps.getD j undef=v at f;cases(show cy w I v (.view i (P.cellsOf e) len)from f)with
  |view _ _ _ B' cap D cur A G H J K L=>grind|lE _ _ _ _ _ hi=>omega
 .have f:=c.ct j l;simpa only[aO _ _ m]using f
end
end Go.Ev
namespace Go.Ev
open Go
variable{e t:an}{xs ys:Z AV}{f:bH}{i len N:Nat}{y:ah}{k:dd}{m:Int}{c:AV}{E':cd}{base NX:Nat->Prop}{args:Array ah}{argTypes:Array an}{out:PF}{X:AV->St->Prop}
def nr(d gg:Nat)(vs:Z AV):cH->cH
 |.dT d' g' sz i k=>if d'=d/\g'=gg then .val (.ref (vs.drop (i*sz+k)))else .dT d' g' sz i k|r=>r
def St.gv (s:St) (d:Nat) (vs:Z AV):St:={s with r:=λt=>nr d (s.g d) vs (s.r t),b:=b8 s.b d Y}
section
variable{P:ai}{E:cd}{w0:af}{I0:aA}{n:Nat}{s:St}{a:Act}{w:af}{I I':aA}{be:Nat->V Nat}
theorem tL(d:Nat){cs:Z cH}{vs:Z AV}(o:s.b d=O (.cells cs))(hv:dC cs=O vs)(h:ko P E w0 I0 n s a w):ko P E w0 I0 n (s.gv d vs) a w:=by
 obtain⟨I,be,h⟩:=h;have b:=h.Jh d;refine⟨_,be,b.since,b.size,b.defers,λt p=>?_,b.bD,b.inj,b.bR,b.ru,b.aZ⟩;have e:=b.ct t p;have h0:=h.ct t p;simp only[St.gv];generalize a.tmps.getD t undef=v at h0 e;cases l:s.r t with
 |dT d' g' sz i k=>
  by_cases q:d'=d/\g'=s.g d
  .obtain ⟨rfl,rfl⟩:=q;rw[l]at h0;simp only[nr,and_self,cm];obtain⟨B,u,rfl⟩:=h0.2 rfl (by simp[o]);obtain⟨B',cur,z,g,hw,hsz,x⟩:=h.bD d' _ o;rw[u]at g;injection g with g;subst g;have y:=rH hv;refine cy.ref _ _ (λj=>cur.getD (i*sz+k+j) undef) (λj c f=>?_) (λj c f=>?_) (λj c f=>?_)
   .rw[vB]at f;have m:i*sz+k+j<cur.size:=by grind
    rw[eo,qq hw];simp[m]
   .right
    grind [eo]
   .rw[vB]at f;have m:i*sz+k+j<cs.length:=by grind
    have r:cs[i*sz+k+j]?=O cs[i*sz+k+j]:=by simp[m]
    exact(dW (x _ _ r) (y.2 _ _ _ r f)).mono (.plus _ _ _)
  .rw[l]at e;simp only[nr,q,cA];exact e
 |_=>rw[l]at e;exact e
end
def xQ(P:ai)(s:St):cH->V AV
 |.view d gg off len=>if gg=s.g d then(match s.b d with
  |some (.br _ xs)=>O (.sl ((xs.drop off).take len))|_=>Y)else Y
 |.val (.view i sz len)=>match s.a i with
  |some (.br e xs)=>if sz=P.cellsOf e/\len<=xs.length then O (.sl (xs.take len))else Y|_=>Y
 |.val .hk=>O (.sl [])|r=>bz r
def looks(P:ai)(s:St)(ps:Z ah)(xs:Z AV):Prop:=xs.length=ps.length/\∀(j:Nat)(p:ah)(x:AV),ps[j]?=O p->xs[j]?=O x->xQ P s (s.ev p)=O x∨bz (s.ev p)=O x
def Ha:RV->Prop
 |.v x=>∃v,x=.fl v|.bR _ xs=>∀x∈xs,∀c∈x.cells,∃v,c=.fl v
section
variable{P:ai}{E:cd}{w0:af}{I0:aA}{n:Nat}{o:aC}{s:St}{K:St->Prop}{a:Act}{w w':af}{I I':aA}{be:Nat->V Nat}
theorem Jk{I':aA}{v:ag}(h:cy w I v c)(a:∃u,c=.fl u):cy w I' v c:=by
 obtain⟨u,rfl⟩:=a;cases h with
 |fl v hv=>exact .fl v hv
theorem BP{bo:V Nat}{v:ag}{r:RV}(a:Ha r)(D:∀B,¬E'.cf w B∨E.cf w B)(g:∀B,base B->NX B)(k:∀p,I p->I' p)(h:nq P E' w I' base bo v r)(G:E'.cf=E.cf):nq P E w I NX bo v r:=by
 cases r with
 |v x=>exact Jk h a|bR e xs=>
  obtain⟨l,m,n,b⟩:=h;refine⟨l,m,n,?_⟩;cases bo with
  |none=>exact b|some B=>obtain⟨q1,o,q,H,cur,cap,s,t,u,y,z,A⟩:=b;refine⟨g B q1,o,λp C=>q p (k p C),by grind,cur,cap,s,t,u,y,z,λi j x c d f=>?_⟩;exact Jk (A i j x c d f) (a x (bW d) c (bW f))
theorem Jl{bo:Nat->V Nat}{v:ag}(g:E'.cf=E.cf)(i:∀B,base B->NX B)(k:∀p,I p->I' p):∀{rs:Z RV},(∀r∈rs,Ha r)->ou P E' w I' base bo v rs->ou P E w I NX bo v rs
 |[r],c,h=>BP (c r aH) (λB=>by grind) i k h g|[],c,⟨vs,e,f,l⟩=>⟨vs,e,f,λj r d=>by simp at d⟩
 |a::b::rs,c,⟨vs,e,f,l⟩=>⟨vs,e,f,λj r d=>BP (c r (bW d)) (λB=>by grind) i k (l j r d) g⟩
theorem Fe(r:aJ P E w0 I0 n s a w I be){v:ag}(h:cy w I v (.view i (P.cellsOf e) len))(t:s.a i=O (.br e xs))(a0:len<=xs.length){k:aA}(G:dK w w I k)(H:∀B,I.ar i=O B->∀p:bY,p.block=B->k p):cy w k v (.sl (xs.take len)):=by
 by_cases h0:len=0
 .subst h0;have nil:∀A cap,cap<=maxLen->cy w k (.slice A 0 cap) (.sl []):=λA cap u=>by
   cases A with
   |none=>exact .fc cap|some a=>exact .sl a 0 cap 0 [] (λ_ _=>undef) rfl (eM _) u (λi x h=>by simp at h) (λi j x c h=>by simp at h) (λi j x c h=>by simp at h) (λi j x c h=>by simp at h)
  obtain⟨B,m,q1,J,K,L,y,d,N,z,Q,C⟩:=r.aZ.h7 i _ t;cases h with
  |view _ _ _ B' cap f cur A g o D R l=>grind [lJ]|lE _ _ A cap u _=>grind
 obtain⟨B,m,S⟩:=r.aZ.h7 i _ t;cases h with
 |view _ _ _ B' cap f cur A g o D R l=>
  rw[m]at g;injection g with g;subst g;obtain⟨q1,J,K,L,y,d,N,z,Q,C⟩:=S;rw[o]at d;injection d with d;injection d with d T;subst d T;have U:cap=y:=lJ q1 (by grind);subst U;have l:=l M;subst l;refine .sl _ _ _ (P.cellsOf f) _ (λi j=>cur.getD (i*P.cellsOf f+j) undef) (by grind) dx z (λi x b=>?_) (λi j x c b q=>?_) (λi j x c b q=>?_) (λi j x c b q=>?_)
  grind
  .rw[rC]at b;split at b
   .rename_i hi;have b0:j<P.cellsOf f:=by grind
    have X:i*P.cellsOf f+j<cur.size:=by
     rw[D];have:(i+1)*P.cellsOf f<=cap*P.cellsOf f:=hR _ M
     grind
    rw[eo,qq o];simp[X]
   .cases b
  .exact H _ m _ (by rw[eo])
  .rw[rC]at b;split at b
   .exact (C i j x c b q).mono G
   .cases b
 |lE=>omega
theorem L8{x:ah}(H:o.op=.call {callee:=.value x,args:=args,argTypes:=argTypes})(J:ba n o=W)(C0:jt s x=O (f,[]))(S:looks P s args.toList xs)
  {rs:Z RV} (T:tq P E f xs (.ret rs)) (U:∀r∈rs,Ha r) (X:K (s.take o.dst rs)):dL P E w0 I0 n o s K:=by
 rintro a w ⟨I,be,l⟩ D0;obtain⟨a0,b0⟩:=T;have L:=aM J (x:=x) (by simp[H,Op.operands,Call.operands]) l;have c0:s.ev x=.val (.fn f []):=by grind [jt,aN,cz]
 rw[c0]at L;obtain⟨us,e1,d0⟩:∃us:Array ag,a.eval x=.func (.func f) #[] us/\us.size=0:=by
  have e0:cy w I (a.eval x) (.fn f []):=L;generalize a.eval x=u at*;cases e0 with
  |fn f vs caps N y=>grind
 have f0:us=#[]:=Y9 d0;subst f0;let z:aA:=I.plus λp=>(∃d B,s.b d≠Y/\be d=O B/\p.block=B)∨∃i B,s.a i≠Y/\I.ar i=O B/\p.block=B;have g0:∀p,z p->p.block<w.heap.size/\¬E.cf w p.block:=by
  rintro p (g|⟨d,B,h0,m,rfl⟩|⟨i,B,hi,m,rfl⟩)
  .exact ⟨l.since.lt p g,l.since.off p g⟩
  .obtain ⟨q1,i0,j0,k0⟩:=l.bR d _ h0 m
   grind
  .obtain ⟨q1,i0,j0,k0,E0⟩:=l.aZ.bR i _ hi m
   grind
 have l0:lN w z (args.map a.eval).toList xs:=by
  obtain⟨N,m0⟩:=S;refine⟨by simp[N],λj v c hv C=>?_⟩;simp only[Array.toList_map,gu,c8]at hv;obtain⟨p,g,rfl⟩:=hv;have b:=m0 j p c g C;have t:=aM J (x:=p) (by grind [Op.operands,Call.operands,bW]) l;rcases b with b|b;rotate_left
  .exact (dW t b).mono (.plus _ _ _)
  unfold xQ at b;split at b
  .rename_i d gg off len y;rw[y]at t;split at b
   .rename_i n0;split at b
    .rename_i e ys D;simp only[aN]at b;subst b;exact vG D (l.bD d _ D) (t.2 n0) (.plus _ _ _) (λB m p g=>.inr (.inl ⟨d,B,by simp[D],m,g⟩))
    .cases b
   .cases b
  .rename_i i sz len y;rw[y]at t;split at b
   .rename_i e ys Q;split at b
    .rename_i o0;obtain⟨rfl,p0⟩:=o0;simp only[aN]at b;subst b;exact Fe l t Q p0 (.plus _ _ _) λB m p g=>.inr (.inr ⟨i,B,by simp[Q],m,g⟩)
    .cases b
   .cases b
  .rename_i y;rw[y]at t;simp only[aN]at b;subst b;generalize a.eval p=v at t;cases(show cy w I v .hk from t)with
   |hk A=>
    cases A with
    |none=>exact .fc 0|some a=>exact .sl a 0 0 0 [] (λ_ _=>undef) rfl (bq _) (eM _) (λi x h=>by simp at h) (λi j x c h=>by simp at h) (λi j x c h=>by simp at h) (λi j x c h=>by simp at h)
  .exact (dW t b).mono (.plus _ _ _)
 have C:=b0 w z (args.map a.eval) l.since.hS g0 l0;have q0:(execOp a.eval o).run P w=.ok (.enter f (args.map a.eval)) w:=by simp only[execOp,H,resolve,e1,Deferred.ofValue,cx,cW,cL,invoke,Vx,Y8,a0 _ w]
 unfold Oper.wp;rw[q0];simp only[Bc];refine C.mono λG0 w' g=>?_;obtain⟨v,I',bo,rfl,q,r0,Bz,R,_⟩:=g;have s0:ee E.plain w I w' I:=⟨q.os,q.tape,q.output,q.size,q.block,q.cf,q.hS,λ_ h=>h,λ_ _ h=>h,λ_=>rfl,q.shape,λ_ h=>.inl h,λp g=>jQ (l.since.lt p g) q.size,λp g=>q.off p (q.oO p (.inl g))⟩
 have t0:=l.By s0;have G:∀B,E.plain.fresh w B->w.heap.size<=B:=λB=>cd.fU;obtain⟨u0,x0⟩:=t0.take (bo:=bo) (base:=E.fresh w0) (Jl (E:=E) (I:=I) (I':=I') rfl (λB m=>.inl (ef l.since.size (G B m))) (λp g=>q.oO p (.inl g)) U r0) Bz (λ_ h=>h)
  (λk B m d' y0 A0=>by have:=G B (R k B m);have:=(l.bR d' B y0 A0).2.1;omega)
  (λk B m i hi B0=>by have:=G B (R k B m);have:=(l.aZ.bR i B hi B0).2.1;omega) o.dst
 exact⟨_,⟨I,u0,x0⟩,X⟩
theorem tq.h {f:bH} {args:Z AV} {out:PF} (h:tq P E f args out) (A:Nat->V Ob) (Vloc:Nat->aa):ov P E f args A Vloc out A Vloc:=by
 refine⟨h.1,λw0 I0 vs Q u y c=>(h.2 w0 I0 vs Q u c).mono λe w d=>?_⟩;have H:∀{w:af}{I:aA},ee E.plain w0 I0 w I->ee (E.bX A I0) w0 I0 w I:=λh=>⟨h.os,h.tape,h.output,h.size,λk R z _=>h.block k R z (E.eO k),h.cf,h.hS,h.oO,h.ar,λ_=>h.IY rfl,h.shape,λp d=>(h.new p d).imp id (λh=>h.imp id (λh=>(E.eO _ h).elim)),h.lt,h.off⟩
 have J:∀{w:af}{I:aA}{T:Nat->Prop},ee E.plain w0 I0 w I->(∀B,T B->w0.heap.size<=B)->mX P (E.bX A I0) w0 w I A Vloc T:=λ{w I T} g c0=>by
  have S:I.ar=I0.ar:=g.IY rfl;have U:∀i B,A i≠Y->I0.ar i=O B->w.heap[B]?=w0.heap[B]?:=λi B hi l=>by obtain⟨q1,s,C,t,K⟩:=y.bR i B hi l;exact g.block B s t (E.eO B)
  have X:dK w0 w I0 I:=⟨g.oO,g.ar,λp v d hv=>by rw[dn (g.block p.block (u p d).1 (u p d).2 (E.eO _))];exact hv,g.shape⟩
  have:=y.eP (w':=w) X S U g.size (λp d=>by
   rcases g.new p d with m|m|m
   grind
   .refine .inr λi hi a0=>?_;have:=(y.bR i _ hi a0).2.1;omega
   .exact (E.eO _ m).elim) (λb d0 z=>Rq λb0=>by
    rcases g.cf b z with m|m
    .exact b0 m
    .omega) (λ_ h=>.inl h)
  refine⟨this.h7,this.inj,λi B hi l=>?_,this.un,this.ro⟩;obtain⟨q1,s,C,t,_⟩:=this.bR i B hi l
  grind
 cases out with
 |ret rs=>
  obtain⟨v,I,bo,rfl,hs,D,Bz,L,_⟩:=d;refine⟨v,I,bo,rfl,H hs,?_,Bz,λj B l=>.inl (cd.fU (L j B l)),J hs λB ⟨j,l⟩=>cd.fU (L j B l)⟩;have G:∀(bo:V Nat)(v:ag)(r:RV),nq P E.plain w I (E.plain.fresh w0) bo v r->nq P (E.bX A I0) w I ((E.bX A I0).fresh w0) bo v r:=λbo v r c=>by
   cases r with
   |v x=>exact c|bR e xs=>
    obtain⟨n,o,q,N⟩:=c;refine⟨n,o,q,?_⟩;cases bo with
    |none=>exact N|some B=>obtain⟨q1,s,C,t,K⟩:=N;exact⟨.inl (cd.fU q1),s,C,t,K⟩
  match rs,D with
  |[r],D=>exact G _ _ _ D|[],⟨vs,n,o,q⟩=>exact ⟨vs,n,o,λj r c=>G _ _ _ (q j r c)⟩
  |a::b::rs,⟨vs,n,o,q⟩=>exact ⟨vs,n,o,λj r c=>G _ _ _ (q j r c)⟩
 |ea x=>obtain⟨v,I,rfl,hs,c,_⟩:=d;exact⟨v,I,rfl,H hs,c,J hs λ_ h=>h.elim⟩
theorem BQ{x:ah}{g hi:V ah}(j:o.op=.slice t x g hi Y)(k:ba n o=W)(r:gV P t=O e)(u:0<P.cellsOf e){sz:Nat}(z:s.ev x=.val (.view i sz len))
  {h:Nat} (C:mS s 0 g=O 0) (D:mS s len hi=O h) (L:h<=len):dZ P E w0 I0 n o s (.val (.view i sz h)):=
 λa w I be l=>by
  have d:=aM k (x:=x) (by simp[j,Op.operands]) l;rw[z]at d;replace d:cy w I (a.eval x) (.view i sz len):=d;have m:∀(A:V bY)(cap:Nat),len<=cap->a.eval x=.slice A len cap->∃b,(A=b∨A.map (·.add (0*P.cellsOf e))=b)/\(execOp a.eval o).run P w=.ok (.value (.slice b h cap)) w:=λA cap p hv=>by have c:=mA (P:=P) k l (w:=w) (A:=A) (cap:=cap) (mx:=Y) (ff r) u (λy N=>by grind [Op.operands]) C D (by simp[mS]) (eM _) M (bq _) (.inl rfl);refine⟨if cap=0 then A else A.map (·.add (0*P.cellsOf e)),by grind,?_⟩;simp only[execOp,j,hv,cx,jr]at c⊢;rw[c];rfl
  generalize hv:a.eval x=v at d;cases d with
  |view _ _ _ B cap e' cur A G H hsz p f=>obtain⟨b,q,c⟩:=m A cap p hv;refine⟨_,c,.view i sz h B cap e' cur b G H hsz M λJ=>?_⟩;have f:=f J;subst f;rcases q with rfl|rfl<;>simp[eo]
  |lE _ _ A cap K hi=>obtain⟨b,q,c⟩:=m A cap (eM _) hv;obtain rfl:h=0:=M;exact⟨_,c,.lE i sz b cap K hi⟩
theorem VH(t:Nat){e:Nat}(v:E.ro i=Y)(y:s.r t=.val (.view i (P.cellsOf e) len))(f:s.a i=O (.br e xs))(z:len<=xs.length)(h:ko P E w0 I0 n s a w):
  ko P E w0 I0 n {s with r:=b8 s.r t (.val (.sl (xs.take len))),a:=b8 s.a i Y} a w:=by
 obtain⟨I,be,h⟩:=h;have k:s.a i≠Y:=by simp[f]
 obtain⟨B,A,Q⟩:=h.aZ.h7 i _ f;obtain⟨o1,o2,o3,R,S⟩:=h.aZ.bR i B k A;have b:=h.RM i v;have l:∀d',s.g d'<s.g d'∨(s.g d'=s.g d'/\fy P w w be be s.b s.b d'):=λd'=>.inr ⟨rfl,λh=>⟨h,rfl⟩,λ_ _ _ h=>h⟩;have C:∀j,b8 s.a i Y j≠Y->j≠i/\s.a j≠Y:=λj m=>by
  have e:j≠i:=λe=>by simp_all
  grind [aO]
 refine⟨I.plus λp=>p.block=B,be,h.since.step (w':=w) rfl rfl rfl (bq _) (λ_=>False) (λ_ _ _=>rfl) (λ_ D=>D.elim) (gZ.refl w) (λ_ h=>.inl h) rfl ?_,b.size,b.defers.mono (.plus _ _ _),
  λg o=>?_,λd' x G=>(b.bD d' x G).eP (.plus _ _ _) l rfl (λ_ _=>rfl),b.inj,λd' B' H q=>?_,b.ru,
  b.gi (.plus _ _ _) rfl (λ_=>False) (λ_ _ _ _ h=>h) (λ_ _ _=>rfl) (bq _) (λ_ h=>h.elim) (λp c=>c.imp id λc j m J=>?_) (λ_ h=>.inl h)⟩
 .rintro p (c|rfl)
  grind
  grind
 .by_cases d:g=t
  .subst d;have u:=h.ct g o;rw[y]at u;simp only[ch];exact Fe h u f z (.plus _ _ _) λB' q p c=>.inr (by grind)
  .simp only[aO _ _ d];exact(b.ct g o).eP (.plus _ _ _) l
 .obtain ⟨q1,K,T,L⟩:=b.bR d' B' H q;refine⟨q1,K,λp c e=>?_,L⟩;rcases c with c|c
  grind
  grind
 .obtain ⟨d,N⟩:=C j m;exact d (h.aZ.inj j i _ N k J (by grind))
theorem RZ(t:Nat)(g:s.r t=.val .hk)(h:ko P E w0 I0 n s a w):ko P E w0 I0 n {s with r:=b8 s.r t (.val (.sl []))} a w:=by
 obtain⟨I,be,h⟩:=h;refine⟨I,be,h.since,h.size,h.defers,λb e=>?_,h.bD,h.inj,h.bR,h.ru,h.aZ⟩;by_cases f:b=t
 .subst f;have d:=h.ct b e;rw[g]at d;simp only[ch];generalize a.tmps.getD b undef=v at d;cases(show cy w I v .hk from d)with
  |hk A=>
   cases A with
   |none=>exact .fc 0|some a=>exact .sl a 0 0 0 [] (λ_ _=>undef) rfl (bq _) (eM _) (λi x h=>by simp at h) (λi j x c h=>by simp at h) (λi j x c h=>by simp at h) (λi j x c h=>by simp at h)
 .simpa only[aO _ _ f]using h.ct b e
theorem xR{x:ah}(g:o.op=.makeSlice t x y)(p:ba n o=W){d:Nat}(B:o.dst=O d)(C:P.underlying t=O (.slice e)){b:AV}(D:ZC P e b.cells)(c0:b.wf)(G:0<P.cellsOf e)
  {k':dd} (f:s.ev x=.val (.fl (.int k m))) (H:s.ev y=.val (.fl (.int k' m))) (h0:0<=m) (q:m.toNat<=maxLen) (d0:m.toNat*P.bytesOf e<=281474976710656)
  (J:K (s.cQ d e (List.replicate m.toNat b))):dL P E w0 I0 n o s K:=by
 rintro a w ⟨I,be,h⟩ e0;obtain⟨i,z,hi,hz,L,N,f0,Q⟩:=D;have r:=aM p (x:=x) (by simp[g,Op.operands]) h;have u:=aM p (x:=y) (by simp[g,Op.operands]) h;rw[f]at r;rw[H]at u;have e1:=bV r;have e2:=bV u;have R:(i.bytes:Int)*m<=281474976710656:=by grind [uq,Int.natCast_mul,Int.toNat_of_nonneg,Int.mul_comm]
 have S:=run_make (P:=P) w t e i z C hi hz k k' m m h0 (gY _) R (by simp only[maxLen]at q;omega);refine fS (v:=.slice (O ⟨w.heap.size,0,Y⟩) m.toNat m.toNat) (w':=w.alloc (.cells (madeCells z.cells (m.toNat*i.size)) e)) (by simp[execOp,g,e1,e2,S]) ⟨_,⟨I,b8 be d (O w.heap.size),?_⟩,J⟩;rw[B];have hsz:=sJ hi;have g0:b.cells.length=P.cellsOf e:=by grind
 have:=h.cQ (w':=w.alloc (.cells (madeCells z.cells (m.toNat*i.size)) e)) d rfl rfl rfl rfl (List.replicate m.toNat b) G (cap:=m.toNat) (by rw[size_madeCells,hsz]) q aH
  (λx f=>by grind)
  (λi2 j x c T U=>by
    have f:=List.eq_of_mem_replicate (bW T);subst f;have X:i2<m.toNat:=by grind
    have l:j<P.cellsOf e:=by grind
    have A:=qt X (bq _) l;rw[hsz]at A l⊢;have a0:(madeCells z.cells (m.toNat*i.size)).getD (i2*i.size+j) undef=z.cells.getD j undef:=by
     have i0:(i2*i.size+j)%z.cells.size=j:=by rw[N,uj,Nat.mul_add_mod,Nat.mod_eq_of_lt l]
     simp only[madeCells,my,Array.getElem?_map,Array.getElem?_range,aq A,dr,gh]
     grind
    rw[a0];have b0:j<z.cells.size:=M;have hv:z.cells[j]?=O z.cells[j]:=by simp[b0]
    have:=xH (w:=w) (I:=I) (rB.1 L _ (kQ hv)) (Q j _ c hv U);simp_all)
 grind
end
section
variable{P:ai}{E:cd}{w0:af}{I0:aA}{n:Nat}{o:aC}{s:St}{a:Act}{w:af}{I:aA}{be:Nat->V Nat}
theorem Al(a:P.underlying t=O (.array N e))(b:0<P.cellsOf e)(p:bY)(k:dd)(m:Int)(h0:0<=m)(c:m<N)(w:af):
  (Instr.indexAt t (.pointer (O p)) (.int k m)).run P w=.ok (.pointer (O (p.add (m.toNat*P.cellsOf e)))) w:=by
 simp[Instr.indexAt,asIntOf,eH a,Instr.sureAddr,gF rfl b,h0,c]
def R6(j:Nat):cH->cH
 |.dT d g sz i k=>.dT d g sz i (k+j)|.val (.ptr i off)=>.val (.ptr i (off+j))
 |.val (.ref cs)=>.val (.ref (cs.drop j))|_=>.none
theorem BR{x:ah}(f:o.op=.indexAddr t x y)(l:ba n o=W)(u:P.underlying t=O (.array N e))(z:P.cellsOf e=1)(A:s.ev y=.val (.fl (.int k m)))(h0:0<=m)(C:m<N)
  (c:(∃cs,s.ev x=.val (.ref cs))∨(∃d gg sz i k,s.ev x=.dT d gg sz i k/\gg=s.g d/\s.b d≠Y)∨∃i off,s.ev x=.val (.ptr i off)):dZ P E w0 I0 n o s (R6 m.toNat (s.ev x)):=
 λa w I be q=>by
  have b:=aM l (x:=x) (by simp[f,Op.operands]) q;have r:=aM l (x:=y) (by simp[f,Op.operands]) q;rw[A]at r;have e2:=bV r;have g:∀p,a.eval x=.pointer (O p)->(execOp a.eval o).run P w=.ok (.value (.pointer (O (p.add m.toNat)))) w:=λp h=>by have:=Al u M p k m h0 C w;rw[z,Nat.mul_one]at this;simp[execOp,f,h,e2,this]
  rcases c with⟨cs,c⟩|⟨d,gg,sz,i,k',c,D,G⟩|⟨i,off,c⟩
  .rw[c]at b⊢;obtain⟨p,e1,h⟩:=cy.Ry b;exact⟨_,g p e1,h _⟩
  .rw[c]at b⊢;obtain⟨B,j,e1⟩:=uo b D G;refine⟨_,g _ e1,b.1,λ_ _=>⟨B,j,?_⟩⟩;rw[eo,ql]
  .rw[c]at b⊢;generalize hv:a.eval x=v at b;cases(show cy w I v (.ptr i off)from b)with
   |ptr _ _ B j=>refine⟨_,g _ hv,?_⟩;rw[eo];exact cy.ptr (w:=w) (I:=I) i (off+m.toNat) B j
theorem BT{x:ah}(b:o.op=.index t x y)(f:ba n o=W)(i:P.underlying t=O (.array N e))(j:P.cellsOf e=1)(l:mZ P e=O F)(p:s.ev y=.val (.fl (.int k m)))(h0:0<=m)(q:m<N)
  {cs:Z AV} (r:s.ev x=.val (.agg cs)) (u:cs[m.toNat]?=O c):dZ P E w0 I0 n o s (.val c):=
 λa w I be g=>by
  have d:=aM f (x:=x) (by simp[b,Op.operands]) g;have h:=aM f (x:=y) (by simp[b,Op.operands]) g;rw[p]at h;rw[r]at d;have e2:=bV h;generalize hv:a.eval x=v at d;cases(show cy w I v (.agg cs)from d)with
  |agg vs _ B z=>
   have A:m.toNat<vs.size:=by grind
   refine⟨vs.getD m.toNat undef,?_,z _ _ u⟩;simp[execOp,b,hv,e2,Instr.index,asIntOf,eH i,h0,q,part,pN l,gF (P:=P) j M,A]
end
section
variable{P:ai}{E:cd}{w0:af}{I0:aA}{n:Nat}{o:aC}{s:St}{K:St->Prop}{a:Act}{w:af}{I:aA}{be:Nat->V Nat}
theorem Am{first:Array ah}(e:o.op=.makeFunc (.func f) first #[])(g:ba n o=W)(h:da s first.toList=O xs):
  dZ P E w0 I0 n o s (.val (.mc f xs)):=
 λa w I be i=>by
  have b:=kY g i (ps:=first.toList) (λy l=>by grind [Op.operands]) h;refine⟨.func (.func f) (first.map a.eval) #[],by simp[execOp,e,Instr.makeFunc],.mc f _ _ (by simpa using b.1) λj c d=>?_⟩;have m:j<xs.length:=(cr.1 d).1;have k:j<first.size:=by have:=b.1;grind
  have:=b.2 j (a.eval first[j]) c (by simp[k]) d;simp_all
theorem PS{x:ah}(d:o.op=.call {callee:=.value x,args:=args,argTypes:=argTypes})(g:ba n o=W){first:Z AV}(l:s.ev x=.val (.mc f first))(m:da s args.toList=O xs)
  (p:Go.Proofs.Enters P f) (h:aJ P E w0 I0 n s a w I be):∃vs:Array ag,(execOp a.eval o).run P w=.ok (.enter f vs) w/\lN w I vs.toList (first++xs):=by
 have i:=aM g (x:=x) (by simp[d,Op.operands,Call.operands]) h;rw[l]at i;obtain⟨vs,e1,q,r⟩:∃vs:Array ag,a.eval x=.func (.func f) vs #[]/\vs.size=first.length/\∀(j:Nat)(c:AV),first[j]?=O c->cy w I (vs.getD j undef) c:=by
  have t:cy w I (a.eval x) (.mc f first):=i;generalize a.eval x=u at*;cases t with
  |mc f vs first A B=>grind
 have k:=kY g h (ps:=args.toList) (λy C=>by grind [Op.operands,Call.operands]) m;refine⟨vs++(args.map a.eval),?_,by have:=k.1;grind,λj v c hv b=>?_⟩
 .simp only[execOp,d,resolve,e1,Deferred.ofValue,cx,cW,cL,invoke,Y8,p (vs++(args.map a.eval)) w]
 .simp only[Rp]at hv;by_cases z:j<first.length
  .rw[oU dx]at hv;rw[oU z]at b;have:=r j c b;simp_all
  .rw[oV dx]at hv;rw[oV M]at b;have e:j-vs.toList.length=j-first.length:=by simp[q]
   rw[e]at hv;exact k.2 _ v c (by grind) b
theorem wh(r:E.cT=F)(t:∀i,E.ro i=Y)(m:∀a w I be,aJ P E w0 I0 n s a w I be->∃vs:Array ag,(execOp a.eval o).run P w=.ok (.enter f vs) w/\lN w I vs.toList ys)
  {a':Nat->V Ob} {u':Nat->aa} (D:ov P E f ys s.a s.u out a' u') (z:PG out (λrs=>K (({s with a:=a',u:=u'}:St).take o.dst rs)) (λy=>X y {s with a:=a',u:=u'})):jS P E w0 I0 n o s K X:=by
 rintro a w ⟨I,be,b⟩ e0 G;obtain⟨f0,H⟩:=D;obtain⟨vs,m,J⟩:=m a w I be b;have L:mX P (E.bX s.a I) w w I s.a s.u (λ_=>False):=⟨b.aZ.h7,b.aZ.inj,λi B hi d=>by obtain⟨q1,N,Q,R,g0⟩:=b.aZ.bR i B hi d;exact⟨.inr (cd.hU.2 ⟨i,hi,d⟩),N,Q,R,id⟩,b.aZ.un,λi x h=>by cases h⟩
 have S:=H w I vs b.since.hS (λp g=>⟨b.since.lt p g,b.since.off p g⟩) L J;unfold Oper.wp;rw[m];simp only[Bc];refine S.mono λe w' g=>?_;cases out with
 |ret rs=>
  obtain⟨v,I',bo,rfl,q,T,Bz,U,j⟩:=g;have a0:=b.vM r t q j;have b0:∀k B,bo k=O B->∀d',s.b d'≠Y->be d'≠O B:=λk B c d' A C=>by
   have h0:=(b.bR d' B A C).2.1;rcases U k B c with l|l
   .omega
   .obtain ⟨i,hi,d⟩:=cd.hU.1 l;exact(b.aZ.bR i B hi d).2.2.2.2 ⟨d',A,C⟩
  obtain⟨c0,l⟩:=a0.take T Bz (λB c=>by
   rcases c with c|c
   .exact .inl (ef b.since.size c)
   .obtain ⟨i,hi,d⟩:=cd.hU.1 c;exact(b.aZ.bR i B hi d).1) b0 (λk B c i hi d=>(j.bR i B hi d).2.2.2.2 ⟨k,c⟩) o.dst
  exact⟨_,⟨I',c0,l⟩,z⟩
 |ea y=>obtain⟨v,I',rfl,q,d0,j⟩:=g;exact G y v _ a w' I' be z (b.vM r t q j) d0
theorem Jm(h:∀a w I be,aJ P E w0 I0 n s a w I be->∃vs:Array ag,(execOp a.eval o).run P w=.ok (.enter f vs) w/\lN w I vs.toList ys)
  (q:tq P E f ys out) (j:PG out (λrs=>K (s.take o.dst rs)) (λy=>X y s)):jS P E w0 I0 n o s K X:=by
 rintro a w ⟨I,be,b⟩ R r;obtain⟨S,t⟩:=q;obtain⟨vs,h,u⟩:=h a w I be b;have x:=t w I vs b.since.hS (λp c=>⟨b.since.lt p c,b.since.off p c⟩) u;unfold Oper.wp;rw[h];simp only[Bc];refine x.mono λe w' c=>?_;cases out with
 |ret rs=>
  obtain⟨v,I',bo,rfl,g,z,A,l,_⟩:=c;have C:=b.By g;have D:∀k B,bo k=O B->∀d',s.b d'≠Y->be d'≠O B:=λk B d d' G H=>by have J:=(b.bR d' B G H).2.1;have:=cd.fU (l k B d);omega
  obtain⟨L,N⟩:=C.take z A (λB d=>.inl (ef b.since.size (cd.fU d))) D (λk B d i hi m=>by rw[g.IY rfl]at m;have J:=(b.aZ.bR i B hi m).2.1;have:=cd.fU (l k B d);omega) o.dst;exact⟨_,⟨I',L,N⟩,j⟩
 |ea y=>obtain⟨v,I',rfl,g,Q,_⟩:=c;exact r y v s a w' I' be j (b.By g) Q
end
end Go.Ev
