import Derived.Test.YtedadjfbbpjaiaaGreatZ10
set_option linter.all false
namespace Go.X
open Go Go.Ev
variable{ti i:Nat}{a:Act}{ops:Array Oper}{o:Oper}{c:Code}{p:RP}{Q:bZ->St->Prop}{Z:AV->St->Prop}
section
variable{A:Type}
def jC(seen:List Nat)(z:List (A×Nat)):List A:=(z.filter λp=>!seen.contains p.2).map (·.1)
theorem dD(seen:List Nat)(y:A)(c:Nat)(z:List (A×Nat)):jC seen ((y,c)::z)=if c∈seen then jC seen z else y::jC seen z:=by
 unfold jC;rw[CV];by_cases h:c∈seen
 ·simp[h]
 ·simp[h]
theorem Bs{seen:List Nat}{b:Nat}:∀{z:List (A×Nat)},b∉z.map (·.2)->jC (seen++[b]) z=jC seen z
 |[],_=>rfl|(y,c)::z,h=>by simp only[eD,c6,not_or]at h;rw[dD,dD,Bs h.2];have:c≠b:=λe=>h.1 e.symm;simp[this]
theorem wz{seen:List Nat}{b:Nat}{x:A}(hb:b∉seen):∀{z:List (A×Nat)}{j:Nat},(z.map (·.2)).Nodup->z[j]?=some (x,b)->∃i,i<(jC seen z).length/\(jC seen z)[i]?=some x/\(jC seen z).eraseIdx i=jC (seen++[b]) z
 |[],j,_,h=>by simp at h|(y,c)::z,0,hn,h=>by
  simp only[ik,ah,aS]at h;obtain⟨rfl,rfl⟩:=h;simp only[eD,oc]at hn;refine⟨0,?_,?_,?_⟩
  ·rw[dD,ai hb];simp
  ·rw[dD,ai hb];rfl
  ·rw[dD,ai hb,dD,ap (by simp),Bs hn.1];rfl
 |(y,c)::z,j+1,hn,h=>by
  simp only[eD,oc]at hn;have h:z[j]?=some (x,b):=by simpa using h
  obtain⟨i,h1,h2,h3⟩:=wz hb hn.2 h;have hcb:c≠b:=λe=>hn.1 (e▸cK.2 ⟨(x,b),bC h,rfl⟩);by_cases hc:c∈seen
  ·refine ⟨i,?_,?_,?_⟩
   ·rw[dD,ap hc];exact h1
   ·rw[dD,ap hc];exact h2
   ·rw[dD,ap hc,dD,ap (by simp[hc])];exact h3
  ·refine ⟨i+1,?_,?_,?_⟩
   ·rw[dD,ai hc];simpa using h1
   ·rw[dD,ai hc];simpa using h2
   ·rw[dD,ai hc,dD,ai (by simp[hc,hcb])];simpa using h3
theorem Ee{seen:List Nat}:∀{z:List (A×Nat)},(∀b∈z.map (·.2),b∈seen)->jC seen z=[]
 |[],_=>rfl|(y,c)::z,h=>by rw[dD,ap (h c (by simp)),Ee λb hb=>h b (by simp[hb])]
theorem zZ:∀(z:List (A×Nat)),jC [] z=z.map (·.1)
 |[]=>rfl|(y,c)::z=>by rw[dD,ai (by simp),zZ z];rfl
theorem IQ{B:Type}:∀{l:List A}{m:List B},l.length=m.length->(l.zip m).map (·.1)=l
 |[],[],_=>rfl|a::l,b::m,h=>by simp only[Mu,eD,IQ (l:=l) (m:=m) (by simpa using h)]
theorem IS{B:Type}:∀{l:List A}{m:List B},l.length=m.length->(l.zip m).map (·.2)=m
 |[],[],_=>rfl|a::l,b::m,h=>by simp only[Mu,eD,IS (l:=l) (m:=m) (by simpa using h)]
end
theorem GW:∀(l:List Oper),l4 l++Ed l=l
 |[]=>rfl|[o]=>rfl
 |o::o'::l=>by have:=GW (o'::l);simp only[l4,Ed,ou,this]
theorem Lf{P:Program}{w:World}{Q:Exit->Act->World->Prop}(I:Nat->Act->World->Prop)(m:Nat)(h0:I m a w)(hq0:∀a w,Q .outgrown a w->False)(round:∀m a w,I m a w->c.wp P (Exit.then (λa' w'=>∃m',m'<m/\I m' a' w') Q) a w):(Code.loop c).wp P Q a w:=by
 intro b k cs;have key:∀m a w,I m a w->∃e a' w',Q e a' w'/\Arrives P (lone (b.at a (.code c::.inLoop c::k)) cs w) b k cs e a' w':=by
  intro m;induction m using Nat.strongRecOn with
  |_ m ih=>
   intro a w hI;obtain⟨e,a₁,w₁,hq,jY⟩:=round m a w hI b (.inLoop c::k) cs;cases e with
   |normal=>obtain⟨m',eK,hI₁⟩:=hq;obtain⟨e₂,a₂,w₂,hq₂,S1⟩:=ih m' eK a₁ w₁ hI₁;exact⟨e₂,a₂,w₂,hq₂,.of_steps (Steps.trans jY (.one step_inLoop)) S1⟩|exit id=>exact ⟨.exit id,a₁,w₁,hq,.pass (x:=.inLoop c) rfl (λ_ _=>.inl (by simp)) jY⟩|goto l=>exact ⟨.goto l,a₁,w₁,hq,.pass (x:=.inLoop c) rfl (λ_ _=>.inl (by simp)) jY⟩
   |ret=>exact ⟨.ret,a₁,w₁,hq,.pass (x:=.inLoop c) rfl (λ_ _=>.inl (by simp)) jY⟩|panic ch=>exact ⟨.panic ch,a₁,w₁,hq,.pass (x:=.inLoop c) rfl (λ_ _=>.inl (by simp)) jY⟩
   |outgrown=>exact (hq0 _ _ hq).elim
 obtain⟨e,a',w',hq,jY⟩:=key m a w h0;exact⟨e,a',w',hq,.of_steps (.one step_loop) jY⟩
section
variable{P:Program}{E E':Env}{U:cm}{T:da U.C}{X:Ctx U}{w0:World}{I0:Cells}{n:Nat}{α:Type}{out:α}{kx:tz U->S U.C->Option α}{esc:List (Nat×Nat)}
variable(L:Lawful U T)
theorem XW{o:RO}(h:p.ro=some o):(∃oR,Ed p.ops.toList=[oR]/\oR.op=.range o.e o.x/\oR.dst=some o.ti/\oR.guard=none)/\
  (∃oN l,p.nx.toList=oN::l/\oN.op=.next (.tmp o.ti) false/\oN.dst=some o.tn/\oN.guard=none)/\∃oE l,p.en.toList=oE::l/\oE.op=.entry (.tmp o.ti)/\oE.dst=some o.te/\oE.guard=none:=by
 unfold RP.ro at h;obtain⟨r,h1,h⟩:=bind_some h;obtain⟨x,h2,h⟩:=bind_some h;obtain⟨e,h3,h⟩:=bind_some h;obtain⟨h4,h⟩:=aq h;simp only[aD]at h4;have e1:=bM h4.1;have e2:=bM h4.2;injection h with h;subst h;refine⟨?_,?_,?_⟩
 ·unfold Pp at h1;split at h1
  ·rename_i Fm;injection h1 with h1;subst h1;exact⟨_,Fm,rfl,rfl,rfl⟩
  ·cases h1
 ·unfold UC at h2;split at h2
  ·rename_i Fm;injection h2 with h2;subst h2;simp only at e1;subst e1;exact⟨_,_,Fm,rfl,rfl,rfl⟩
  ·cases h2
 ·unfold Pq at h3;split at h3
  ·rename_i Fm;injection h3 with h3;subst h3;simp only at e2;subst e2;exact⟨_,_,Fm,rfl,rfl,rfl⟩
  ·cases h3
theorem kn{rest:List Nat}{R:Exit->Act->World->Prop}{w w':World}{v:Value}(ho:ops[i]?=some o)(hg:o.guard=none)(cu:(execOp a.eval o).run P w=.ok (.value v) w')(h:wpOps P ops R rest (a.put o.dst v) w'):wpOps P ops R (i::rest) a w:=by simp only[wpOps,ho,Region.wanted,hg,bp];exact .inl (eA cu h)
theorem wA{l:List Oper}(h:ops.toList=o::l):List.range ops.size=0::(List.range' 1 l.length++[])/\ops[0]?=some o/\∀j o',l[j]?=some o'->ops[1+j]?=some o':=by
 have hs:ops.size=l.length+1:=by rw[<-pN,h];rfl
 refine⟨?_,?_,λj o' hj=>?_⟩
 ·rw[hs,Hz,List.range'_succ,GD]
 ·rw[<-iW,h];rfl
 ·rw[<-iW,h,jo];simpa using hj
theorem tS(h:gJ n ops=true)(ho:ops[i]?=some o):aJ n o=true:=by have:=rq.1 h o (nB ho);simp only[aD]at this;exact this.1
end
section
variable{P:Program}{E E':Env}{U:cm}{T:da U.C}{X:Ctx U}{w0:World}{I0:Cells}{n:Nat}{α:Type}{out:α}{kx:tz U->S U.C->Option α}{esc:List (Nat×Nat)}
variable(L:Lawful U T)
theorem Bt{s:S U.C}:bu s (m7 ti s):=by
 refine⟨rfl,aP _,λt st x h hs=>?_,λ_ _ _ h _=>h,λ_=>⟨rfl,rfl⟩⟩;simp only[m7,aF]at h;split at h
 ·cases h
 ·exact h
theorem aN.leave {E:Env} {s:S U.C} {q:St} (hS:aN P E T X s q):aN P E T X (m7 ti s) q:=by
 refine⟨λt=>?_,hS.boxes,λt st x h=>?_,hS.Fw,hS.heap,hS.df⟩
 ·have h1:=hS.cr t;rw[S.look_eq]at h1⊢;simp only[m7,aF];by_cases e:ti=t
  ·rw[ap e];exact .none _
  ·rw[ai e];exact h1
 ·simp only[m7,aF]at h;split at h
  ·cases h
  ·exact hS.Ci t st x h
theorem abC(E5:E'.df=E.df){k:Ex->S U.C->Option α}{e:Ex}{s s6:S U.C}{q6:St}(h:IP ti k e s6=some out)(hS:aN P E' T X.fix s6 q6)(hL:bu s s6)(hQ:∀e s' q',aN P E T X s' q'->bu s s'->k e s'=some out->Q (ae e) q'):Q (ae e) q6:=by obtain⟨hp,h⟩:=aq h;have h1:aN P E' T X.fix (m7 ti s6) q6:=hS.leave;exact hQ e _ q6 (Co (X:=X.fix) (X':=X) rfl E5 (it:=false) (λh=>by cases h) h1 hp) (hL.trans Bt) h
theorem aeD(E5:E'.df=E.df){sB s:S U.C}{av:AV}{q:St}(hL:bu sB s)(h:XE P E' T X.fix s (rKx kx ti) out av q):XE P E T X sB kx out av q:=by obtain⟨p,s',h1,h2,h3,h4,h5⟩:=h;obtain⟨hp,h3⟩:=aq h3;have h6:aN P E' T X.fix (m7 ti s') q:=h1.leave;exact⟨p,m7 ti s',Co (X:=X.fix) (X':=X) rfl E5 (it:=false) (λh=>by cases h) h6 hp,(hL.trans h2).trans Bt,h3,h4,h5⟩
theorem UH{m:Nat->Bool}{h:U.C 0}{A:Nat->Option Ob}{V:Nat->Bool}{es:List (AV×AV)}{c c':Option (List Nat×Nat)}(hH:fa T m h A V)(hi:A i=some (.map es c)):fa T m h (bF A i (some (.map es c'))) V:=λk hk hm i'=>by
 have h1:=hH k hk hm i';by_cases e:dk k i'=i
 ·rw[e]at h1;rw[e,bA];cases hg:(U.get k h)[i']? with
  |none=>rw[hg]at h1;rw[hi]at h1;cases h1.1
  |some x=>rw[hg]at h1;simp only at h1⊢;rw[hi]at h1;exact h1
 ·rw[ay _ _ e];exact h1
theorem IT{E:Env}{s:S U.C}{q:St}{w:World}{I:Cells}{be:Nat->Option Nat}(hS:aN P E T X s q)(h2:bD P w I be q.b q.g (a.eval (.tmp ti)) (q.ev (.tmp ti)))(h:s.look ti=.it):a.eval (.tmp ti)=.pointer (some ⟨E.it,0,none⟩):=by have h1:=hS.cr ti;rw[h]at h1;have h2:bD P w I be q.b q.g (a.eval (.tmp ti)) (q.r ti):=h2;generalize q.r ti=u at h1 h2;cases h1;exact bR h2
include L in
theorem RC(FD:P.follows .mixedOrders=true)(hX:bG P E T X)(hTy:∀E' e t,X.ty e=some t->kL P E' T X e t){sB:S U.C}(hE:(∃k,sB.m k=true)->E.fixed=false)(hZ:∀av q',XE P E T X sB kx out av q'->Z av q')
   {j:Sh} {hb:Hint} {s:S U.C} {k:Ex->S U.C->Option α} {q:St} (hc:codeOk n p.code=true) (hL:bu sB s) (h:UD X kx esc p j hb s k=some out) (hS:aN P E T X s q)
  (hQ:∀e s' q',aN P E T X s' q'->bu s s'->k e s'=some out->Q (ae e) q'):lz P E w0 I0 n p.code Q Z q:=by
 intro a w hR;unfold UD at h;split at h
 ·cases h
 rename_i o ho;obtain⟨⟨oR,r1,r2,r3,r4⟩,⟨oN,nl,x1,x2,x3,x4⟩,⟨oE,el,e1,e2,e3,e4⟩⟩:=XW ho;simp only[RP.code,codeOk,aD,and_true]at hc;obtain⟨sP,vD,jn,Sf,hc4⟩:=hc;have ui:=GW p.ops.toList;rw[r1]at ui;have hlen:p.ops.size=(l4 p.ops.toList).length+1:=by have:=dK List.length ui;simp only[kR,dE,kS,pN]at this;omega
 have Lg:p.ops[(l4 p.ops.toList).length]?=some oR:=by
  have:(l4 p.ops.toList++[oR])[(l4 p.ops.toList).length]?=p.ops.toList[(l4 p.ops.toList).length]?:=by rw[ui]
  rw[lF (aP _),zd]at this;rw[<-iW];exact this.symm
 have abD:∀(jj:Nat)(o':Oper),(l4 p.ops.toList)[jj]?=some o'->p.ops[0+jj]?=some o':=λjj o' hj=>by
  have:(l4 p.ops.toList++[oR])[jj]?=p.ops.toList[jj]?:=by rw[ui]
  rw[kf (aV.1 hj).1,hj]at this;rw[cS,<-iW];exact this.symm
 have aeE:=tS sP Lg;refine wp_seq (qd ?_);rw[Hz,hlen,List.range'_concat,cS,kF];refine l5 (w0:=w0) (I0:=I0) L hX (sB:=s) (by rw[hL.m];exact hE) sP ?_ ?_ _ 0 s q a w abD (.refl s) h hS hR
 ·rintro q1 a1 w1 ⟨s1,Gx,WE,h1⟩ ⟨I1,be1,RD⟩;simp only at h1;split at h1;rotate_left
  ·cases h1
  rename_i m' m qp ht ku;obtain⟨hk,h1⟩:=aq h1;simp only[aD]at hk;obtain⟨JX,hw,xm⟩:=hk;have JX:=bM JX;subst JX;split at h1;rotate_left
  ·cases h1
  rename_i kt vt Cj;split at h1;rotate_left
  ·cases h1
  rename_i l hl;obtain⟨i,hi,h1⟩:=bind_some h1;obtain⟨es,ZT,h1⟩:=bind_some h1;obtain⟨hU,h1⟩:=aq h1;simp only[aD]at hU;obtain⟨hU,aeF⟩:=hU;split at h1;rotate_left
  ·cases h1
  rename_i x0 L2;have jX:∀j,E.ro j=none:=hX.ro hw;obtain⟨mc,hmc⟩:=Io hl Gx ZT;obtain⟨⟨Jz,L8⟩,_⟩:=zI hl;have T1:q1.ev o.x=.val (.mp (dk m' i)):=by
   have hr:=Gx.ev o.x (bB aeE (by simp[r2,Op.operands]));rw[ku]at hr;subst hi;generalize q1.ev o.x=u at hr;cases hr with
   |val _ _ _ av hq hv=>obtain⟨_,rfl⟩:=hv;cases u<;>simp[bh,enc,Dy]at hq;rw[hq]
  obtain⟨ka,kb,hu,_⟩:=(hX.ty _ _ ht).mp _ rfl;obtain⟨bm,since,bs,w2,b1,b2,b3,b4,hR2⟩:=NH (x:=o.x) r2 aeE hu RD jX T1 hmc;refine kn Lg r4 b3 ?_;show(Code.block p.b _).wp P _ (a1.put oR.dst _) w2;rw[r3];obtain⟨EI,Ps⟩:∃EI:List Nat->Env,EI=λseen=>E.iter w1.heap.size bm since seen (dk m' i) (.map (es.map λp=>(enc T kt p.1,enc T vt p.2)) (some (bs,since))):=⟨_,rfl⟩
  have aeG:∀a b,(EI a).it=(EI b).it:=λa b=>by rw[Ps];rfl
  have UI:∀a,(EI a).fixed=E.fixed:=λa=>by rw[Ps];rfl
  have Lh:∀a,(EI a).df=E.df:=λa=>by rw[Ps];rfl
  have hXI:∀seen,bG P (EI seen) T X.fix:=λseen=>by rw[Ps];exact NK L hX hTy ⟨kt,vt,Cj⟩ L8
  have ZZ:∀{a b:List Nat}{s':S U.C}{q':St},aN P (EI a) T X.fix s' q'->s'.pl true=true->aN P (EI b) T X.fix s' q':=λh1 h2=>Co (X:=X.fix) (X':=X.fix) rfl ((Lh _).trans (Lh _).symm) (it:=true) (λ_=>aeG _ _) h1 h2;have GX:es.length=bs.length:=by rw[b1,cM]
  have hzn:((es.zip bs).map (·.2)).Nodup:=by rw[IS GX];exact b2
  have aeH:aC P (EI []) w0 I0 n (({q1 with a:=bF q1.a (dk m' i) (some (.map (es.map λp=>(enc T kt p.1,enc T vt p.2)) (some (bs,since))))}:St).put (some o.ti) (.val (.fl (.pointer (some ⟨w1.heap.size,0,none⟩))))) (a1.put (some o.ti) (.pointer (some ⟨w1.heap.size,0,none⟩))) w2 I1 be1:=by rw[Ps];exact hR2.put (some o.ti) (r:=.val (.fl (.pointer (some ⟨w1.heap.size,0,none⟩)))) (cj.fl _ rfl)
  have ID:aN P (EI []) T X.fix (s1.put (some o.ti) .it) (({q1 with a:=bF q1.a (dk m' i) (some (.map (es.map λp=>(enc T kt p.1,enc T vt p.2)) (some (bs,since))))}:St).put (some o.ti) (.val (.fl (.pointer (some ⟨w1.heap.size,0,none⟩))))):=by
   have e1:aN P E T X s1 ({q1 with a:=bF q1.a (dk m' i) (some (.map (es.map λp=>(enc T kt p.1,enc T vt p.2)) (some (bs,since))))}:St):=Gx.tH (hv:=s1.hv) (aP _) (UH Gx.heap hmc);have e2:aN P (EI []) T X.fix s1 ({q1 with a:=bF q1.a (dk m' i) (some (.map (es.map λp=>(enc T kt p.1,enc T vt p.2)) (some (bs,since))))}:St):=Co (X:=X) (X':=X.fix) rfl (Lh _).symm (it:=false) (λh=>by cases h) e1 xm;refine e2.put (some o.ti) ?_;have:(EI []).it=w1.heap.size:=by rw[Ps];rfl
   rw[<-this];exact .it
  generalize Ww:(({q1 with a:=bF q1.a (dk m' i) (some (.map (es.map λp=>(enc T kt p.1,enc T vt p.2)) (some (bs,since))))}:St).put (some o.ti) (.val (.fl (.pointer (some ⟨w1.heap.size,0,none⟩)))))=q2 at aeH ID;generalize hs2:s1.put (some o.ti) .it=s2 at ID h1 L2 aeF;have hL2:bu s s2:=by rw[<-hs2];exact WE.trans (bd _ _)
  obtain⟨q3,g1,g2,g3⟩:=yf (w0:=w0) (I0:=I0) (n:=n) L (hXI []) hU ID (.refl _) ID L2;have NL:w0.heap.size<=w1.heap.size:=b4;refine wp_block (Lf (I:=λM a' w'=>∃seen st q',M=(jC seen (es.zip bs)).length/\Rel P (EI seen) w0 I0 n q' a' w'/\aN P (EI seen) T X.fix (j.load s2 st) q'/\bu s2 (j.load s2 st)/\m6 (vn X kx esc p o j hb s2 k kt vt) (Br X kx esc p o j s2 k) M (jC seen (es.zip bs)) st=some out) es.length ?_ (λ_ _ h=>h) ?_)
  ·refine ⟨[],x0,q3,by rw[zZ,IQ GX],g1 _ _ ⟨I1,be1,aeH⟩,g2,g3,?_⟩;rw[zZ,IQ GX];exact h1
  rintro M a3 w3 ⟨seen,st,q',hM,⟨I3,be3,hR3⟩,hS3,hL3,hr⟩;have aie:=tS vD (wA x1).2.1;have hlv:∀{seen:List Nat}{q4:St}{a4:Act}{w4:World}{I4:Cells}{be4:Nat->Option Nat},aC P (EI seen) w0 I0 n q4 a4 w4 I4 be4->aC P E w0 I0 n q4 a4 w4 I4 be4:=λh4=>by rw[Ps]at h4;exact h4.leave NL jX
  have yS:∀seen,(EI seen).it=w1.heap.size:=λseen=>by rw[Ps];rfl
  have Ro:∀{seen:List Nat}{sM:S U.C}{R:Exit->Act->World->Prop}(hR:∀ch a w,lift P E w0 I0 n Q Z (.panic ch) a w->R (.panic ch) a w)(hLM:bu s sM)(av:AV)(v:Value)(q:St)(a:Act)(w:World)(I:Cells)(be:Nat->Option Nat),XE P (EI seen) T X.fix sM (rKx kx o.ti) out av q->aC P (EI seen) w0 I0 n q a w I be->cj w I v av->R (.panic [{v:=v,recovered:=false}]) a w:=λhR hLM av v q a w I be hx lr hr=>hR _ _ _ ⟨av,v,q,I,be,rfl,hZ _ _ (aeD (Lh _) (hL.trans hLM) hx),hlv lr,hr⟩;have XX:∀{seen:List Nat}{e:Ex}{s6:S U.C}{q6:St}{a6:Act}{w6:World},IP o.ti k e s6=some out->aN P (EI seen) T X.fix s6 q6->bu s s6->Rel P (EI seen) w0 I0 n q6 a6 w6->∃q',Rel P E w0 I0 n q' a6 w6/\Q (ae e) q':=λh6 hS6 hL6 ⟨I6,be6,hR6⟩=>⟨_,⟨I6,be6,hlv hR6⟩,abC (Lh _) h6 hS6 hL6 hQ⟩
  have RE:bu s (j.load s2 st):=hL2.trans hL3;refine wp_seq (qd ?_);obtain⟨c1,c2,c3⟩:=wA x1;rw[c1];have aeI:=au aie (x:=.tmp o.ti) (by simp[x2,Op.operands]) hR3;cases M with
  |zero=>
   have hr:Br X kx esc p o j s2 k st=some out:=hr;unfold Br at hr;obtain⟨hk,hr⟩:=aq hr;simp only[aD]at hk;have hti:=IT hS3 aeI (IN hk.2);rw[yS]at hti;rw[Ps]at hR3;rcases GS (x:=.tmp o.ti) x2 hR3 NL jX hti with⟨cY,cu⟩|⟨jj,b,w4,kk,vv,Su,hnb,cu,hR4⟩
   ·refine kn c2 x4 cu ?_;rw[x3];have hR4:aC P (EI seen) w0 I0 n (q'.put (some o.tn) (.fb [.val (.fl (.bool false))])) (a3.put (some o.tn) (.tuple #[.bool false])) w3 I3 be3:=by
     rw[Ps];refine hR3.put (some o.tn) (r:=.fb [.val (.fl (.bool false))]) ⟨#[.bool false],rfl,rfl,λjx r hr=>?_⟩;cases jx with
     |zero=>simp at hr;subst hr;exact cj.fl _ rfl|succ jx=>simp at hr
    have hS4:aN P (EI seen) T X.fix ((j.load s2 st).put (some o.tn) (.fb [.val .bool false])) (q'.put (some o.tn) (.fb [.val (.fl (.bool false))])):=
     hS3.put (some o.tn) (.fb _ _ rfl λix r q hr hq=>by
      cases ix with
      |zero=>simp at hr hq;subst hr hq;exact aY (t:=.bool) rfl|succ ix=>simp at hr)
    refine l5 (w0:=w0) (I0:=I0) L (hXI seen) (sB:=(j.load s2 st).put (some o.tn) (.fb [.val .bool false])) ?_ vD ?_ ?_ nl 1 _ _ _ _ c3 (.refl _) (by rw[x1]at hr;exact hr) hS4 ⟨I3,be3,hR4⟩
    ·rw[UI,((hL.trans RE).trans (bd _ _)).m];exact hE
    ·rintro q5 a5 w5 ⟨s5,hS5,hL5,h5⟩ ⟨I5,be5,hR5⟩;simp only at h5;split at h5;rotate_left
     ·cases h5
     rename_i UJ;refine wp_seq (wp_cond_false ?_ (wp_exit ?_))
     ·have h7:=hR5.ev (.tmp p.tc) rfl (λt ht=>by cases ht;simpa[zn,bI]using jn);have h8:=mU (hS5.ev (.tmp p.tc) rfl) UJ;rw[h8]at h7;exact bR h7
     ·show(if p.b=p.b then lift P E w0 I0 n Q Z .normal a5 w5 else _);rw[ap rfl];exact XX h5 hS5 ((RE.trans (bd _ _)).trans hL5) ⟨I5,be5,hR5⟩
    ·exact Ro (λ_ _ _ h=>h) (RE.trans (bd _ _))
   ·exfalso;have pM:jj<es.length:=by rw[GX];exact (aV.1 Su).1
    obtain⟨ii,i1,_⟩:=wz (z:=es.zip bs) (j:=jj) (x:=es[jj]) hnb hzn (by rw[List.getElem?_zip_eq_some];exact ⟨by simp,Su⟩);omega
  |succ M=>
   have UK:0<(jC seen (es.zip bs)).length:=by omega
   have hr:pv (jC seen (es.zip bs)).length (λi=>((jC seen (es.zip bs))[i]?).bind λx=>vn X kx esc p o j hb s2 k kt vt x st λjh=>m6 (vn X kx esc p o j hb s2 k kt vt) (Br X kx esc p o j s2 k) M ((jC seen (es.zip bs)).eraseIdx i) jh)=some out:=hr;have WS:(j.load s2 st).pl true=true/\FE ((j.load s2 st).look o.ti)=true:=by obtain⟨x,_,h0⟩:=bind_some (vm hr 0 UK);unfold vn at h0;obtain⟨hk,_⟩:=aq h0;simpa using hk
   have hti:=IT hS3 aeI (IN WS.2);rw[yS]at hti;rw[Ps]at hR3;rcases GS (x:=.tmp o.ti) x2 hR3 NL jX hti with⟨cY,cu⟩|⟨jj,b,w4,kk,vv,Su,hnb,cu,hR4⟩
   ·exfalso;rw[Ee (by rw[IS GX];exact cY)]at UK;simp at UK
   ·have pM:jj<es.length:=by rw[GX];exact (aV.1 Su).1
    obtain⟨ii,i1,i2,i3⟩:=wz (z:=es.zip bs) (j:=jj) (x:=es[jj]) hnb hzn (by rw[List.getElem?_zip_eq_some];exact ⟨by simp,Su⟩);have mK:=vm hr ii i1;rw[i2]at mK;have mK:vn X kx esc p o j hb s2 k kt vt es[jj] st (λjh=>m6 (vn X kx esc p o j hb s2 k kt vt) (Br X kx esc p o j s2 k) M ((jC seen (es.zip bs)).eraseIdx ii) jh)=some out:=mK;rw[i3]at mK;generalize aH:(λjh=>m6 (vn X kx esc p o j hb s2 k kt vt) (Br X kx esc p o j s2 k) M (jC (seen++[b]) (es.zip bs)) jh)=rec at mK;unfold vn at mK;obtain⟨_,mK⟩:=aq mK;have hM':M=(jC (seen++[b]) (es.zip bs)).length:=by rw[<-i3,List.length_eraseIdx,ap i1];omega
    have aif:aC P (EI (seen++[b])) w0 I0 n q' a3 w4 I3 be3:=by rw[Ps];exact hR4
    refine kn c2 x4 cu ?_;rw[x3];have hR5:aC P (EI (seen++[b])) w0 I0 n (q'.put (some o.tn) (.fb [.val (.fl (.bool true)),.none,.none])) (a3.put (some o.tn) (.tuple #[.bool true,kk,vv])) w4 I3 be3:=by
     refine aif.put (some o.tn) (r:=.fb [.val (.fl (.bool true)),.none,.none]) ⟨#[.bool true,kk,vv],rfl,rfl,λjx r hr=>?_⟩;match jx with
     |0=>simp at hr;subst hr;exact cj.fl _ rfl|1=>simp at hr;subst hr;trivial
     |2=>simp at hr;subst hr;trivial|jx+3=>simp at hr
    have hS5:aN P (EI (seen++[b])) T X.fix ((j.load s2 st).put (some o.tn) (.fb [.val .bool true,.none,.none])) (q'.put (some o.tn) (.fb [.val (.fl (.bool true)),.none,.none])):=
     (ZZ hS3 WS.1).put (some o.tn) (.fb _ _ rfl λix r q hr hq=>by
      match ix with
      |0=>simp at hr hq;subst hr hq;exact aY (t:=.bool) rfl|1=>simp at hr hq;subst hr hq;exact .none _
      |2=>simp at hr hq;subst hr hq;exact .none _|ix+3=>simp at hr)
    have hE5:∀{s':S U.C},bu s s'->(∃k,s'.m k=true)->(EI (seen++[b])).fixed=false:=λh5=>by rw[UI,(hL.trans h5).m];exact hE
    refine l5 (w0:=w0) (I0:=I0) L (hXI (seen++[b])) (sB:=(j.load s2 st).put (some o.tn) (.fb [.val .bool true,.none,.none])) ?_ vD ?_ ?_ nl 1 _ _ _ _ c3 (.refl _) (by rw[x1]at mK;exact mK) hS5 ⟨I3,be3,hR5⟩
    ·exact hE5 (RE.trans (bd _ _))
    ·rintro q6 a6 w6 ⟨s6,hS6,hL6,h6⟩ ⟨I6,be6,hR6⟩;simp only at h6;split at h6;rotate_left
     ·cases h6
     rename_i UJ;obtain⟨aih,h6⟩:=aq h6;have abE:bu s s6:=(RE.trans (bd _ _)).trans hL6;refine wp_seq (wp_cond_true ?_ (wp_skip ?_))
     ·have h7:=hR6.ev (.tmp p.tc) rfl (λt ht=>by cases ht;simpa[zn,bI]using jn);have h8:=mU (hS6.ev (.tmp p.tc) rfl) UJ;rw[h8]at h7;exact bR h7
     ·refine wp_block (wp_seq (qd ?_));obtain⟨d1,d2,d3⟩:=wA e1;rw[d1];have aii:=tS Sf d2;have aeJ:=IT hS6 (au aii (x:=.tmp o.ti) (by simp[e2,Op.operands]) hR6) (IN aih);rw[yS]at aeJ;rw[Ps]at hR6;obtain⟨k7,v7,ee,f1,f2,f3,f4⟩:=NG (x:=.tmp o.ti) e2 hR6 Su aeJ;refine kn d2 e4 f1 ?_;rw[e3];have hee:ee=(enc T kt es[jj].1,enc T vt es[jj].2):=by rw[dd,cq pM]at f2;simpa using f2.symm
      subst hee;have aij:aC P (EI (seen++[b])) w0 I0 n q6 a6 w6 I6 be6:=by rw[Ps];exact hR6
      have hR7:aC P (EI (seen++[b])) w0 I0 n (q6.put (some o.te) (.fb [.val (enc T kt es[jj].1),.val (enc T vt es[jj].2)])) (a6.put (some o.te) (.tuple #[k7,v7])) w6 I6 be6:=by
       refine aij.put (some o.te) (r:=.fb [.val (enc T kt es[jj].1),.val (enc T vt es[jj].2)]) ⟨#[k7,v7],rfl,rfl,λjx r hr=>?_⟩;match jx with
       |0=>simp at hr;subst hr;exact f3|1=>simp at hr;subst hr;exact f4
       |jx+2=>simp at hr
      obtain⟨hkf,hvo⟩:=hX.map _ _ _ Cj;have XY:fg kt=true:=by cases kt<;>first|rfl|cases hkf
      have hS7:aN P (EI (seen++[b])) T X.fix (s6.put (some o.te) (.fb [.val kt es[jj].1,.val vt es[jj].2])) (q6.put (some o.te) (.fb [.val (enc T kt es[jj].1),.val (enc T vt es[jj].2)])):=
       hS6.put (some o.te) (.fb _ _ rfl λix r q hr hq=>by
        match ix with
        |0=>simp at hr hq;subst hr hq;exact aY XY|1=>simp at hr hq;subst hr hq;exact aY hvo
        |ix+2=>simp at hr)
      refine l5 (w0:=w0) (I0:=I0) L (hXI (seen++[b])) (sB:=s6.put (some o.te) (.fb [.val kt es[jj].1,.val vt es[jj].2])) ?_ Sf ?_ ?_ el 1 _ _ _ _ d3 (.refl _) (by rw[e1]at h6;exact h6) hS7 ⟨I6,be6,hR7⟩
      ·exact hE5 (abE.trans (bd _ _))
      ·rintro q8 a8 w8 ⟨s8,hS8,hL8,h8⟩ hR8;simp only at h8;have UL:bu s s8:=(abE.trans (bd _ _)).trans hL8;have aik:bu s2 s8:=((((hL3.trans (bd _ _)).trans hL6).trans (bd _ _)).trans hL8)
       have aeK:=pX (w0:=w0) (I0:=I0) L (hXI (seen++[b])) (sB:=s8) (hE5 UL) (oP L FD (hXI (seen++[b]))) (Z:=λav q=>XE P (EI (seen++[b])) T X.fix s8 (rKx kx o.ti) out av q) (λ_ _ h=>h) p.body hb s8 _ q8
        (λe q9=>∃e' s9,e=ae e'/\aN P (EI (seen++[b])) T X.fix s9 q9/\bu s8 s9/\(match e' with
          |.normal=>GV j s2 rec s9|.exit id=>bif Nat.beq id p.b2 then GV j s2 rec s9 else bif Nat.beq id p.b then IP o.ti k .normal s9 else IP o.ti k (.exit id) s9
          |.ret=>IP o.ti k .ret s9)=some out) hc4 (.refl _) h8 hS8 (λe' s9 q9 m1 m2 m3=>⟨e',s9,rfl,m1,m2,m3⟩)
       have Gu:∀{s9:S U.C}{q9:St}{a9:Act}{w9:World},GV j s2 rec s9=some out->aN P (EI (seen++[b])) T X.fix s9 q9->bu s8 s9->Rel P (EI (seen++[b])) w0 I0 n q9 a9 w9->
         ∃m',m'<M+1/\∃seen st q',m'=(jC seen (es.zip bs)).length/\Rel P (EI seen) w0 I0 n q' a9 w9/\aN P (EI seen) T X.fix (j.load s2 st) q'/\bu s2 (j.load s2 st)/\m6 (vn X kx esc p o j hb s2 k kt vt) (Br X kx esc p o j s2 k) m' (jC seen (es.zip bs)) st=some out:=λh9 hS9 hL9 Sv=>by
        unfold GV at h9;split at h9
        ·rename_i x' bV;obtain⟨q10,m1,m2,m3⟩:=yf (w0:=w0) (I0:=I0) (n:=n) L (hXI (seen++[b])) hU (ZZ ID aeF) (aik.trans hL9) hS9 bV;rw[<-aH]at h9;exact⟨M,D3 M,seen++[b],x',q10,hM',m1 _ _ Sv,m2,m3,h9⟩
        ·cases h9
       refine wp_mono (aeK a8 w8 hR8) λe a9 w9 he=>?_;cases e with
       |normal=>
        obtain⟨q9,Sv,e',s9,zg,m1,m2,m3⟩:=he;cases e' with
        |normal=>exact Gu m3 m1 m2 Sv|exit id=>cases zg
        |ret=>cases zg
       |exit id=>
        obtain⟨q9,Sv,e',s9,zg,m1,m2,m3⟩:=he;cases e' with
        |normal=>cases zg
        |ret=>cases zg
        |exit Jv=>
         injection zg with zg;subst zg;simp only at m3;simp only[Exit.inBlock];by_cases nP:id=p.b2
         ·subst nP;rw[rN]at m3;rw[ap rfl];exact Gu m3 m1 m2 Sv
         ·rw[tD nP]at m3;rw[ai nP];simp only[bc]at m3;show(if id=p.b then lift P E w0 I0 n Q Z .normal a9 w9 else lift P E w0 I0 n Q Z (.exit id) a9 w9);by_cases XZ:id=p.b
          ·subst XZ;rw[rN]at m3;rw[ap rfl];exact XX m3 m1 (UL.trans m2) Sv
          ·rw[tD XZ]at m3;rw[ai XZ];exact XX m3 m1 (UL.trans m2) Sv
       |goto l=>obtain⟨q9,Sv,e',s9,zg,_⟩:=he;cases e'<;>cases zg
       |ret=>
        obtain⟨q9,Sv,e',s9,zg,m1,m2,m3⟩:=he;cases e' with
        |normal=>cases zg
        |exit id=>cases zg
        |ret=>exact XX m3 m1 (UL.trans m2) Sv
       |panic ch=>obtain⟨x,v,q9,I9,be9,rfl,hx,Sv,hr9⟩:=he;exact Ro (R:=λe a w=>lift P E w0 I0 n Q Z e a w) (λ_ _ _ h=>h) UL x v q9 a9 w9 I9 be9 hx Sv hr9|outgrown=>exact he
      ·exact Ro (λ_ _ _ h=>h) (abE.trans (bd _ _))
    ·exact Ro (λ_ _ _ h=>h) (RE.trans (bd _ _))
 ·intro av v q1 a1 w1 I1 be1 hx RD hr;exact⟨av,v,q1,I1,be1,rfl,hZ _ _ (hx.up hL),RD,hr⟩
end
section
variable{U:cm}{α:Type}(X:Ctx U)(kx:tz U->S U.C->Option α)(esc:List (Nat×Nat))
noncomputable def GY:Code->Hint->S U.C->(Ex->S U.C->Option α)->Option α
 |.seq a b,h,s,k=>match h with
  |.seq none ha hb=>GY a ha s λe s'=>match e with
   |.normal=>GY b hb s' k|e=>k e s'
  |.Ie j hb=>match Ec (.seq a b)with
   |some p=>UD X kx esc p j hb s k|none=>none
  |h=>exec X kx esc (.seq a b) h s k
 |c,h,s,k=>exec X kx esc c h s k
noncomputable def IU (ps:List Ty) (rs:List RK) (p:Option (TypeId×Ty)) (esc:List (Nat×Nat)) (M9:List ResultVar) (c:Code) (hint:Hint) (x:HL U.C ps) (h:U.C 0):Option (iG U p (HL U.C (rs.map RK.ty))×U.C 0):=
 GY X (λq s=>A6 s.h (Fs p q)) esc c hint {r:=oA ps 0 x,b:=[],tick:=1,h:=h} λe s=>match e with
  |.exit _=>none|_=>cO X true M9 rs s λs y=>some (zw p y,s.h)
end
section
variable{P:Program}{E:Env}{U:cm}{T:da U.C}{X:Ctx U}{w0:World}{I0:Cells}{n:Nat}{α:Type}{out:α}{kx:tz U->S U.C->Option α}{esc:List (Nat×Nat)}
variable(L:Lawful U T)
include L in
theorem UN(FD:P.follows .mixedOrders=true)(hX:bG P E T X)(hTy:∀E' e t,X.ty e=some t->kL P E' T X e t){sB:S U.C}(hE:(∃k,sB.m k=true)->E.fixed=false)(hZ:∀av q',XE P E T X sB kx out av q'->Z av q'):
  ∀(c:Code)(hint:Hint)(s:S U.C)(k:Ex->S U.C->Option α)(q:St)(Q:bZ->St->Prop),codeOk n c=true->bu sB s->GY X kx esc c hint s k=some out->aN P E T X s q->(∀e s' q',aN P E T X s' q'->bu s s'->k e s'=some out->Q (ae e) q')->lz P E w0 I0 n c Q Z q:=by
 intro c;induction c with
 |seq a b iha ihb=>
  intro hint s k q Q hc hL h hS hQ;unfold GY at h;split at h
  ·rename_i ha hb;simp only[codeOk,aD]at hc;refine Cb λK hK=>iha ha s _ q _ hc.1 hL h hS λe s' q' h1 h2 h3=>?_;cases e with
   |normal=>exact hK q' (ihb hb s' k q' Q hc.2 (hL.trans h2) h3 h1 λe s2 q2 g1 g2 g3=>hQ e s2 q2 g1 (h2.trans g2) g3)|exit id=>exact hQ (.exit id) s' q' h1 h2 h3
   |ret=>exact hQ .ret s' q' h1 h2 h3
  ·split at h
   ·rename_i p hp;have:=Le hp;rw[this]at hc⊢;exact RC L FD hX hTy hE hZ hc hL h hS hQ
   ·cases h
  ·exact pX L hX hE (oP L FD hX) hZ _ _ s k q Q hc hL h hS hQ
 |_=>intro hint s k q Q hc hL h hS hQ;exact pX L hX hE (oP L FD hX) hZ _ hint s k q Q hc hL h hS hQ
include L in
theorem abF(FD:P.follows .mixedOrders=true)(hTy:∀E' e t,X.ty e=some t->kL P E' T X e t){f:FuncId}{fn:Func}{ps:List Ty}{rs:List RK}{cG:Option (TypeId×Ty)}{esc:List (Nat×Nat)}{hint:Hint}{F:HL U.C ps->U.C 0->Option (iG U cG (HL U.C (rs.map RK.ty))×U.C 0)}(hX:bG P E T X)(hf:P.funcs[f]?=some fn)(kj:(fn.name== "runtime.NumGoroutine")=false)(hb:fn.body=some c)(hn:ps.length<=fn.ntmps)
  (hc:codeOk fn.ntmps c=true) (jX:lZ fn.ntmps fn.results.toList=true)
  (hF:∀x h,IU X ps rs cG esc fn.results.toList c hint x h=F x h):pn P E T f ps rs cG (.st F):=
 ND L (ex:=λkx=>GY X kx esc c hint) hX hf kj hb hn jX (λA I1 w0 I0 sB r kx Z Un hZ s k q Q hL h hS hQ=>UN L FD Un hTy (λ_=>rfl) hZ c hint s k q Q hc hL h hS hQ) hF
end
end Go.X
namespace Go.Ev
open Go
section
variable{P:Program}{E:Env}{w0:World}{I0:Cells}{n:Nat}{s:St}{a:Act}{w w':World}{I:Cells}{be:Nat->Option Nat}
def Env.hold (E:Env) (B:Nat) (o:Obj) (df:List AV):Env where
 inv:=λw=>E.inv w/\¬E.bN w B/\w.heap[B]?=some o
 bN:=λw b=>E.bN w b∨b=B
 stays:=λw w' ⟨h1,h2,h3⟩ hb=>by obtain⟨g1,g2⟩:=E.stays w w' h1 λb oD=>hb b (.inl oD);exact⟨⟨g1,λhf=>h2 (g2 B hf),(hb B (.inr rfl)).trans h3⟩,λb hb=>hb.imp (g2 b) id⟩
 lt:=λw b ⟨h1,h2,h3⟩ hb=>by
  rcases hb with hb|rfl
  ·exact E.lt w b h1 hb
  ·exact (eT.1 h3).1
 sG:=E.sG
 fixed:=E.fixed
 ro:=E.ro
 it:=B
 df:=df
theorem aC.hold (h:aC P E w0 I0 n s a w I be) {B:Nat} {o:Obj} {df:List AV} (hB:Lone E w0 w I be s B) (hw:w.heap[B]?=some o):aC P (E.hold B o df) w0 I0 n s a w I be:=by
 have hs:=h.since;refine⟨⟨hs.os,hs.tape,hs.output,hs.size,λk hk hf hl=>hs.block k hk (λJt=>hf (.inl Jt)) hl,λb hb=>?_,⟨hs.inv,hB.bN,hw⟩,hs.more,hs.ar,hs.L1,hs.shape,hs.new,hs.lt,λp hp hf=>?_⟩,h.size,h.defers,h.cr,h.boxes,h.inj,λd B' hd cZ=>?_,h.tie,⟨h.aO.obj,h.aO.inj,λj B' hj cZ=>?_,h.aO.un,h.aO.ro⟩⟩
 ·rcases hb with hb|rfl
  ·exact (hs.bN b hb).imp .inl id
  ·exact .inr hB.new
 ·rcases hf with hf|hf
  ·exact hs.off p hp hf
  ·exact hB.mem p hp hf
 ·obtain ⟨q1,q2,q3,q4⟩:=h.own d B' hd cZ;refine⟨q1,q2,q3,λhf=>hf.elim q4 λe=>hB.box d hd (by rw[cZ,e])⟩
 ·obtain ⟨q1,q2,q3,q4,q5⟩:=h.aO.own j B' hj cZ;exact⟨q1,q2,q3,λhf=>hf.elim q4 λe=>hB.ob j hj (by rw[cZ,e]),q5⟩
theorem aC.UO {B:Nat} {o:Obj} {df:List AV} (h:aC P (E.hold B o df) w0 I0 n s a w I be) (Ux:w0.heap.size<=B):aC P E w0 I0 n s a w I be/\Lone E w0 w I be s B/\w.heap[B]?=some o:=by
 have hs:=h.since;refine⟨⟨⟨hs.os,hs.tape,hs.output,hs.size,λk hk hf hl=>hs.block k hk (λJt=>Jt.elim hf λe=>by omega) hl,λb hb=>?_,hs.inv.1,hs.more,hs.ar,hs.L1,hs.shape,hs.new,hs.lt,λp hp hf=>hs.off p hp (.inl hf)⟩,h.size,h.defers,h.cr,h.boxes,h.inj,λd B' hd cZ=>?_,h.tie,⟨h.aO.obj,h.aO.inj,λj B' hj cZ=>?_,h.aO.un,h.aO.ro⟩⟩,⟨Ux,(eT.1 hs.inv.2.2).1,λp hp e=>hs.off p hp (.inr e),hs.inv.2.1,λd hd hB=>(h.own d B hd hB).2.2.2 (.inr rfl),λj hj hB=>(h.aO.own j B hj hB).2.2.2.1 (.inr rfl)⟩,hs.inv.2.2⟩
 ·rcases hs.bN b (.inl hb)with(h1|h1)|h1
  ·exact .inl h1
  ·exact .inr (by omega)
  ·exact .inr h1
 ·obtain ⟨q1,q2,q3,q4⟩:=h.own d B' hd cZ;exact⟨q1,q2,q3,λhf=>q4 (.inl hf)⟩
 ·obtain ⟨q1,q2,q3,q4,q5⟩:=h.aO.own j B' hj cZ;exact⟨q1,q2,q3,λhf=>q4 (.inl hf),q5⟩
theorem aC.aeL (h:aC P E w0 I0 n s a w I be) (t:Nat) {u:br} (hu:t<n->bD P w I be s.b s.g (a.tmps.getD t undef) u):aC P E w0 I0 n {s with r:=bF s.r t u} a w I be:=
 ⟨h.since,h.size,h.defers,λt' ht=>by
  by_cases e:t'=t
  ·subst e;simp only[bA];exact hu ht
  ·simp only[ay _ _ e];exact h.cr t' ht,h.boxes,h.inj,h.own,h.tie,h.aO⟩
theorem aC.deferred (h:aC P E w0 I0 n s a w I be) {d:Deferred} {f:FuncId} {vs:Array Value} {caps:List AV} (hd:d.target=.fn (.func f) vs) (ha:d.args=#[]) (hr:cj w I (.func (.func f) #[] vs) (.fn f caps)):
  aC P E w0 I0 n {s with df:=.fn f caps::s.df} {a with defers:=d::a.defers} w I be:=
 ⟨h.since,h.size,⟨by simp[h.defers.1],λj d' x h1 h2=>by
  cases j with
  |zero=>simp at h1 h2;subst h1 h2;exact⟨f,vs,caps,rfl,hd,ha,hr⟩|succ j=>exact h.defers.2 j d' x (by simpa using h1) (by simpa using h2)⟩,h.cr,h.boxes,h.inj,h.own,h.tie,h.aO⟩
end
end Go.Ev
namespace Go.X
open Go Go.Ev
def qk:Nat->Code->Code
 |0,c=>c|n+1,.seq _ b=>qk n b
 |_+1,c=>c
section
variable{U:cm}{α:Type}(X:Ctx U)(kx:tz U->S U.C->Option α)(esc:List (Nat×Nat))
noncomputable def Ef:Nat->Code->S U.C->(S U.C->Option α)->Option α
 |0,_,s,k=>k s|n+1,.seq a b,s,k=>exec X kx esc a .leaf s λe s'=>match e with
  |.normal=>Ef n b s' k|_=>none
 |_+1,_,_,_=>none
end
section
variable{P:Program}{E E':Env}{U:cm}{T:da U.C}{X:Ctx U}{w0:World}{I0:Cells}{n:Nat}{α:Type}{out:α}{kx:tz U->S U.C->Option α}{esc:List (Nat×Nat)}
variable(L:Lawful U T)
include L in
theorem z6(FD:P.follows .mixedOrders=true)(hX:bG P E T X){sB:S U.C}(hE:(∃k,sB.m k=true)->E.fixed=false){Z:AV->St->Prop}(hZ:∀av q',XE P E T X sB kx out av q'->Z av q'):
  ∀(m:Nat)(c:Code)(s:S U.C)(k:S U.C->Option α)(q:St)(Q:bZ->St->Prop),codeOk n c=true->bu sB s->Ef X kx esc m c s k=some out->aN P E T X s q->(∀s' q',aN P E T X s' q'->bu s s'->k s'=some out->lz P E w0 I0 n (qk m c) Q Z q')->lz P E w0 I0 n c Q Z q
 |0,c,s,k,q,Q,hc,hL,h,hS,hQ=>hQ s q hS (.refl s) (by cases c<;>exact h)
 |m+1,c,s,k,q,Q,hc,hL,h,hS,hQ=>by
  cases c with
  |seq a b=>
   simp only[codeOk,aD]at hc;have h:exec X kx esc a .leaf s (λe s'=>match e with
    |.normal=>Ef X kx esc m b s' k|_=>none)=some out:=h
   refine Cb λK hK=>pX L hX hE (oP L FD hX) hZ a .leaf s _ q _ hc.1 hL h hS λe s' q' h1 h2 h3=>?_;cases e with
   |normal=>exact hK q' (z6 FD hX hE hZ m b s' k q' Q hc.2 (hL.trans h2) h3 h1 λs2 q2 g1 g2 g3=>hQ s2 q2 g1 (h2.trans g2) g3)|exit id=>cases h3
   |ret=>cases h3
  |_=>cases h
theorem X0{X':Ctx U}{s:S U.C}{q:St}(hU:X'.ty=X.ty)(hS:aN P E T X s q)(hp:s.pl false=true):aN P E' T X' s {q with df:=E'.df}:=by
 simp only[S.pl,aD,cJ]at hp;refine⟨λt=>Cn (it:=false) (λh=>by cases h) (hS.cr t) ?_,λd=>?_,hS.Ci,hS.Fw,hS.heap,rfl⟩
 ·rw[S.look_eq];cases hl:ao s.r t with
  |none=>rfl|some e=>exact hp.1 _ (fW (by rw[hl]))
 ·have hb:=hS.boxes d;show pI P E' T X' s.b q.g s.tick (ao s.b d) (q.b d);cases hl:ao s.b d with
  |none=>exact trivial|some e=>
   obtain⟨st,x⟩:=e;rw[hl]at hb;have hx:=hp.2 _ (fW hl);cases x with
   |cells u rs=>obtain⟨b1,b2,cs,b3,b4,b5⟩:=hb;exact⟨b1,b2,cs,b3,b4,λi r c hr hc=>Cn (it:=false) (λh=>by cases h) (b5 i r c hr hc) (p8 hx r (bC hr))⟩
   |aT t e xs=>obtain⟨b1,b2⟩:=hb;exact⟨by rw[hU];exact b1,b2⟩
end
end Go.X
