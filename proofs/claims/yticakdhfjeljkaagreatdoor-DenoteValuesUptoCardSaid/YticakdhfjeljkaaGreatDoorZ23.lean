import Derived.Test.YticakdhfjeljkaaGreatDoorZ22
set_option linter.all false
set_option maxRecDepth 20000
open Option renaming some->O,none->Y
open Bool renaming true->W,false->F
open Go.Proofs.Tryz
noncomputable section
namespace Go.Proofs.Mo
open Go Go.Ev Go.X
noncomputable def Vf:Array aC:=match IP (eA 4 lI)with|.region _ ops _=>ops|_=>#[]
noncomputable def o9a:aC:=Vf.getD 0 default
noncomputable def o9b:aC:=Vf.getD 1 default
theorem aiW:IP (eA 4 lI)=.region 9 Vf F:=ap
theorem aa1:o9a.op=.makeFunc (.func 19) #[] #[.tmp 10,.tmp 11,.tmp 12]:=ap
theorem aa2:o9b.op=.defer {callee:=.value (.tmp 50),args:=#[],argTypes:=#[]}:=ap
abbrev vr(a b c:Nat):Array ag:=#[.pointer (O ⟨a,0,Y⟩),.pointer (O ⟨b,0,Y⟩),.pointer (O ⟨c,0,Y⟩)]
abbrev IL(a b c:Nat):Z AV:=[.fn 19 [.fl (.pointer (O ⟨a,0,Y⟩)),.fl (.pointer (O ⟨b,0,Y⟩)),.fl (.pointer (O ⟨c,0,Y⟩))]]
theorem aa3{a:Act}{w:af}{b c e:Nat}{Q:Exit->Act->af->Prop}(p:a.tmps.getD 10 undef=.pointer (O ⟨b,0,Y⟩))(q:a.tmps.getD 11 undef=.pointer (O ⟨c,0,Y⟩))(r:a.tmps.getD 12 undef=.pointer (O ⟨e,0,Y⟩))(hsz:a.tmps.size=f8.ntmps)
  (h:∀d:Deferred,d.target=.fn (.func 19) (vr b c e)->d.args=#[]->Q .normal {(a.put (O 50) (.func (.func 19) #[] (vr b c e)))with defers:=d::a.defers} w):(IP (eA 4 lI)).wp PP Q a w:=by
 have g:a.tmps[10]?.getD undef=.pointer (O ⟨b,0,Y⟩):=by simp_all
 have i:a.tmps[11]?.getD undef=.pointer (O ⟨c,0,Y⟩):=by simp_all
 have j:a.tmps[12]?.getD undef=.pointer (O ⟨e,0,Y⟩):=by simp_all
 have k:50<a.tmps.size:=by simp_all
 rw[aiW];refine oh ?_;have l:List.range Vf.size=[0,1]:=ap;rw[l];refine X.jC (w':=w) (o:=o9a) (v:=.func (.func 19) #[] (vr b c e)) ap ap ?_ ?_
 .simp[Act.eval,execOp,aa1,g,i,j,go_sem,Instr.makeFunc]
 .have f:o9a.dst=O 50:=ap;have m:o9b.dst=Y:=ap;have e2:Vf[1]?=O o9b:=ap;have g2:o9b.guard=Y:=ap;simp only[wpOps,e2,Region.wanted,g2,cm];refine .inl ?_;unfold Oper.wp;have n:(execOp (a.put o9a.dst (.func (.func 19) #[] (vr b c e))).eval o9b).run PP w=.ok (.defer {target:=.fn (.func 19) (vr b c e),args:=#[]}) w:=by simp[Act.eval,Act.put,execOp,aa2,f,k,go_sem,resolve]
  rw[n,Oper.upon_defer,m,f];exact h _ rfl rfl
theorem ad0{w:af}{I:aA}{a:Z Deferred}{b c e:Nat}(h:pC w I a (IL b c e)):a=[{target:=.fn (.func 19) (vr b c e),args:=#[]}]:=by
 obtain⟨k,g⟩:=h;match a,k,g with
 |[d],_,g=>
  obtain⟨f,vs,caps,q1,q,r,l⟩:=g 0 d _ rfl rfl;cases q1;have s:vs=vr b c e:=by
   cases l with
   |fn f vs caps m i=>
    have n:=bV (i 0 _ rfl);have o:=bV (i 1 _ rfl);have p:=bV (i 2 _ rfl);have u:vs.size=3:=m;apply Gw
    grind
    .intro j v x;simp only[my]at n o p
     grind
  obtain⟨t,y⟩:=d
  grind
theorem Pw{a b c:Nat}{w:af}:(invoke (.fn (.func 19) (vr a b c)) #[]).run PP w=.ok (.enter 19 (vr a b c)) w:=ap
theorem Q9{w:af}{I:aA}{v:ag}{e:cV}(h:cy w I v (.mR 74 (enc TT aaY e))):v=.iface 74 (.agg #[.int .i64 e.e]):=by
 cases h with
 |mR t v x a=>
  have b:enc TT aaY e=.agg [.fl (.int .i64 e.e)]:=rfl;rw[b]at a;cases a with
  |agg vs cs c a=>
   have d:vs.size=1:=c;have h0:=bV (a 0 _ rfl);congr 2;apply Gw
   grind
   simp_all
theorem Y0(T:an)(x:Int):sH PP U TT (.cells #[.int .i64 x] T (0,0)) [.val .I x]:=by
 refine⟨#[.int .i64 x],T,[.val (.fl (.int .i64 x))],rfl,rfl,λE bx g tick=>⟨rfl,λi r c a d=>?_⟩,λj c e w I be b g=>?_⟩
 .match i,a,d with
  |0,a,d=>cases a;cases d;exact .val .I x _ _ rfl (eg rfl)
 .match j,e with
  |0,e=>cases e;exact .fl _ rfl
theorem aa4(T:an):sH PP U TT (.cells #[.int .i64 0,.int .i64 0,.string ⟨#[]⟩,.bool F,.int .i64 0,.slice Y 0 0] T (0,0)) z39:=by
 refine⟨_,T,[.val (.fl (.int .i64 0)),.val (.fl (.int .i64 0)),.val (.fl (.string ⟨#[]⟩)),.val (.fl (.bool F)),.val (.fl (.int .i64 0)),.bF []],rfl,rfl,λE bx g tick=>⟨rfl,λi r c a d=>?_⟩,λj c e w I be b g=>?_⟩
 .match i,a,d with
  |0,a,d=>cases a;cases d;exact .val .I (0:Int) _ _ rfl (eg rfl)
  |1,a,d=>cases a;cases d;exact .val .I (0:Int) _ _ rfl (eg rfl)
  |2,a,d=>cases a;cases d;exact .val .str ([]:X.bP) _ _ rfl (eg rfl)
  |3,a,d=>cases a;cases d;exact .val .bool F _ _ rfl (eg rfl)
  |4,a,d=>cases a;cases d;exact .val .I (0:Int) _ _ rfl (eg rfl)
  |5,a,d=>cases a;cases d;exact .bF .I [] rfl
 .match j,e with
  |0,e=>cases e;exact .fl _ rfl
  |1,e=>cases e;exact .fl _ rfl
  |2,e=>cases e;exact .fl _ rfl
  |3,e=>cases e;exact .fl _ rfl
  |4,e=>cases e;exact .fl _ rfl
  |5,e=>cases e;exact ⟨.fc 0,Y,rfl⟩
theorem sH.six (E:cd) {o:Obj} {rs:Z (R U.C)} (h:sH PP U TT o rs) (a:rs.length=6):∃b c d e f g t,o=.cells #[b,c,d,e,f,g] t (0,0):=by
 obtain⟨cur,te,cs,rfl,i,k,_⟩:=h.is;have l:cur.size=6:=by rw[i,<-(k E [] (λ_=>0) 0).1,a]
 refine⟨cur[0],cur[1],cur[2],cur[3],cur[4],cur[5],te,?_⟩;congr 1;apply Gw
 .exact l
 .intro j m n;have:j<6:=M;match j,this with
  |0,_=>rfl|1,_=>rfl
  |2,_=>rfl|3,_=>rfl
  |4,_=>rfl|5,_=>rfl
theorem sH.one (E:cd) {o:Obj} {rs:Z (R U.C)} (h:sH PP U TT o rs) (a:rs.length=1):∃b t,o=.cells #[b] t (0,0):=by
 obtain⟨cur,te,cs,rfl,c,d,_⟩:=h.is;have e:cur.size=1:=by rw[c,<-(d E [] (λ_=>0) 0).1,a]
 refine⟨cur[0],te,?_⟩;congr 1
 grind
theorem _root_.Go.Ev.fM.eP {E:cd} {w0 w:af} {I:aA} {be:Nat->V Nat} {q:St} {k B B':Nat} {o:Obj} {df:Z AV} (h:fM E w0 w I be q B') (a:B≠B'):fM (E.D8 k B o df) w0 w I be q B':=⟨h.new,h.lt,h.mem,λb=>b.elim h.cf λe=>a e.symm,h.box,h.ob⟩
theorem _root_.Go.Ev.fM.Nw {E:cd} {w0 w:af} {I:aA} {be:Nat->V Nat} {q:St} {k B B':Nat} {o:Obj} {df:Z AV} (h:fM (E.D8 k B o df) w0 w I be q B'):fM E w0 w I be q B':=⟨h.new,h.lt,h.mem,λa=>h.cf (.inl a),h.box,h.ob⟩
abbrev Px(E1:cd)(a b c:Nat)(o1 o2 o3:Obj):cd:=((E1.D8 0 a o1 (IL a b c)).D8 1 b o2 (IL a b c)).D8 2 c o3 (IL a b c)
theorem Vg{E1:cd}{b c d:Nat}{o1 o2 o3:Obj}{w0:af}{I0:aA}{n:Nat}{q:St}{a:Act}{w:af}{I:aA}{be:Nat->V Nat}(h:aJ PP (Px E1 b c d o1 o2 o3) w0 I0 n q a w I be)(e:E1.fresh w0 b)(f:E1.fresh w0 c)(g:E1.fresh w0 d):
  aJ PP E1 w0 I0 n q a w I be/\fM E1 w0 w I be q b/\fM E1 w0 w I be q c/\fM E1 w0 w I be q d/\w.heap[b]?=O o1/\w.heap[c]?=O o2/\w.heap[d]?=O o3:=by
 obtain⟨i,j,k⟩:=h.D9 g;obtain⟨l,m,v2⟩:=i.D9 f;obtain⟨o,p,v1⟩:=l.D9 e;exact⟨o,p,m.Nw,j.Nw.Nw,v1,v2,k⟩
theorem Vh{E1:cd}{b c d:Nat}{o1 o2 o3:Obj}{w0:af}{I0:aA}{q:St}{a:Act}{w:af}{I:aA}{be:Nat->V Nat}{N:Nat}{s:S U.C}(h:aJ PP (Px E1 b c d o1 o2 o3) w0 I0 f8.ntmps q a w I be)(l:aU PP (Px E1 b c d o1 o2 o3) TT (X8 N) s q)
  {m n o:Ty} {p r v:Z (R U.C)} {K:S U.C->V A8} {out:A8} (j:Gr s m n o p r v K=O out):
  a.tmps.getD 10 undef=.pointer (O ⟨b,0,Y⟩)/\a.tmps.getD 11 undef=.pointer (O ⟨c,0,Y⟩)/\a.tmps.getD 12 undef=.pointer (O ⟨d,0,Y⟩):=by
 unfold Gr at j;obtain⟨g,_⟩:=az j;simp only[aP]at g;have e:∀(t k B:Nat),t<f8.ntmps->Gq k (s.bG t)=W->(Px E1 b c d o1 o2 o3).it k=B->a.tmps.getD t undef=.pointer (O ⟨B,0,Y⟩):=λt k B x y z=>by
  have f:=l.ct t;rw[Vb y]at f;have i:=h.ct t x;generalize q.r t=u at f i;cases f with
  |it=>rw[z]at i;exact bV i
 exact⟨e 10 0 b b9 g.1 rfl,e 11 1 c b9 g.2.1 rfl,e 12 2 d b9 g.2.2.1 rfl⟩
theorem aa5{w w':af}{a b c:Nat}{d e f:an}{g h i j l m n o p z2 z3 z4 z5 q r s:ag}(u:w.heap[a]?=O (.cells #[g,h,i,j,l,m] d (0,0)))(v:w.heap[b]?=O (.cells #[n] e (0,0)))(x:w.heap[c]?=O (.cells #[o] f (0,0)))
  (y:∀k,k<w.heap.size->k≠a->k≠b->k≠c->w'.heap[k]?=w.heap[k]?) (z:w'.heap[a]?=O (.cells #[p,z2,z3,z4,z5,q] d (0,0))) (A:w'.heap[b]?=O (.cells #[r] e (0,0))) (B:w'.heap[c]?=O (.cells #[s] f (0,0))) (B':Nat):gZ w w' B':=λcur t C D=>by
 grind
theorem Vi{E:cd}(a0:oN E){A:Nat->V Ob}{f:aA}{N:Nat}{b c d:Nat}{o1 o2 o3:Obj}{o s u:Z (R U.C)}{w0:af}{I0:aA}{r:HL U.C (YZ.map RK.ty)}{x:Hp}{sB:S U.C}(b0:sB.m=bF)
  (c0:(E.bX A f).fresh w0 b) (d0:(E.bX A f).fresh w0 c) (e0:(E.bX A f).fresh w0 d) (y:b≠c) (z:b≠d) (C:c≠d) (f0:sH PP U TT o1 o) (g0:sH PP U TT o2 s) (h0:sH PP U TT o3 u) (i0:o.length=6) (j0:s.length=1) (k0:u.length=1)
  {av:AV} {v:ag} {q:St} {a:Act} {w:af} {I:aA} {be:Nat->V Nat} (l0:XE PP (Px (E.bX A f) b c d o1 o2 o3) TT (X8 N) sB (NF N) (r,x) av q) (n:aJ PP (Px (E.bX A f) b c d o1 o2 o3) w0 I0 f8.ntmps q a w I be) (hv:cy w I v av):
  Leaves PP f8 a.tmps (λe w=>Ve (E.bX A f) w0 I0 r x e w) a.defers (.panicking [{v:=v,recovered:=F}]) w:=by
 obtain⟨p,s',g1,g2,g3,g4,rfl⟩:=l0;unfold NF at g3;split at g3
 .rename_i e g;simp only[Ap]at g;obtain⟨i,g⟩:=az g;have i:=cC i;split at g
  .rename_i e' D;obtain⟨G,rfl⟩:=bM D;obtain⟨H0,J0,K0⟩:=p;simp only at i G D;subst i G;cases g;have hv:=Q9 hv;subst hv;obtain⟨t,L0,N0,P0,v1,v2,H⟩:=Vg n c0 d0 e0;obtain⟨m0,n0,o0⟩:=Vh n g1 g3;have J:=n.defers;rw[g1.df]at J;have p0:=ad0 J;obtain⟨Q0,R0,S0,T0,U0,X0,K,rfl⟩:=sH.six E f0 i0;obtain⟨a1,L,rfl⟩:=sH.one E g0 j0;obtain⟨b1,P,rfl⟩:=sH.one E h0 k0;rw[p0];refine xA aH Pw ((XT K L P b c d _ _ _ _ _ _ _ _ _ _ _ v1 v2 H y z C).mono λe' u' q0 r0=>?_);obtain⟨rfl,rfl,s0,t0,u0,j,x0,Q,T,X⟩:=r0;have l:∀B∈[b,c,d],fM (E.bX A f) w0 w I be q B:=λB c1=>by grind
   have m:∀k,k∉[b,c,d]->k<w.heap.size->q0.heap[k]?=w.heap[k]?:=λk d1 h1=>by grind
   have y0:=t.pF l s0 t0 u0 j m (aa5 v1 v2 H x0 Q T X);have A0:=fM.pF t l (B:=b) aH j m;have B0:=fM.pF t l (B:=c) aH j m;have C0:=fM.pF t l (B:=d) aH j m;obtain⟨i1,j1,D0,E0,G0,m3,K3⟩:=Ln (df:=IL b c d) rfl g1 y0 A0 B0 C0 y z C Q T X (aa4 K) (Y0 L 0) (Y0 P _) m0 n0 o0 g3;exact IK (λ_=>rfl) (XV (E:={E.bX A f with df:=IL b c d}) ⟨λ_=>rfl,λw h=>a0.laid w h⟩ N) rfl E0 ⟨I,D0,G0⟩ (m3.trans (g2.m.trans b0)) K3
  grind
 grind
end Go.Proofs.Mo
