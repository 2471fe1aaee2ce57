import Derived.Test.YtlacgaedkjhfhaaGreatDoorZC19
set_option linter.all false
set_option maxRecDepth 20000
open Option renaming some->O,none->Y
open Bool renaming true->W,false->F
open Go.Proofs.Tryz
noncomputable section
namespace Go.Proofs.Mo
open Go Go.Ev Go.X
variable{a:Act}{E:cm}{w0:zI}{I0:aD}{t:JA}{N:Nat}{be:Nat->V Nat}{Q:Exit->Act->zI->Prop}
noncomputable def ih:F4:=f50.body.getD .skip
noncomputable abbrev Sc (N:Nat):gj U:=XB N (We N)
noncomputable def Vw (x:cW) (h:Hp):S U.C:=match gV (α:=S U.C) (U:=U) (XB 0 []) (λ_ _=>Y) [(1,998)] (OE ih) .aC (xx (U:=U) [U6] x h) (λe s=>match e with|.normal=>O s|_=>Y)with
 |some s=>s|none=>xx (U:=U) [U6] x h
def Yz(N:Nat)(x:cW)(h:Hp):gV (α:=S U.C) (U:=U) (Sc N) (λ_ _=>Y) [(1,998)] (OE ih) .aC (xx (U:=U) [U6] x h) (λe s=>match e with|.normal=>O s|_=>Y)=O (Vw x h):=au
def Ny(x:cW)(h:Hp):(Vw x h).box 2=O (.cells Yl [.val ahr (0:Int),.val ahr (0:Int),.val ahr (0:Int),.val ahr (0:Int)]):=au
def YA(x:cW)(h:Hp):(Vw x h).bQ 2=.dT 2 0:=au
def YB(x:cW)(h:Hp):((Vw x h).drop 2).pl F=W:=au
noncomputable def t63 (x:cW) (h:Hp):S U.C:=(((Vw x h).drop 2).put (O 3) .none).put (O 2) .it
def Dk{C:Nat->Type}:R C->tl
 |.it=>W|_=>F
noncomputable def k63 (s:S U.C):V (Except kJ xW):=bif Dk (s.bQ 2)then O (Except.ok ())else Y
noncomputable def aaZ (p:rq U) (s:S U.C):V (Except kJ xW):=bif Dk (s.bQ 2)then Dc (U:=U) (β:=xW) (O (250,GB)) p else Y
def aa0(x:cW)(h:Hp)(k:Nat):(t63 x h).m k=F:=au
def afJ(N:Nat)(x:cW)(h:Hp):BX (α:=Except kJ xW) (U:=U) (Sc N) aaZ [(1,998)] 8 (Gs (Gs ih)) (t63 x h) k63=Z2 N x:=au
def Vx{x:cW}{q:St}{w:zI}{I:aD}(c:aL PP E.plain w0 I0 f50.ntmps q a w I be)(i:aX PP E.plain TT (Sc N) (Vw x default) q):
  ∃B t,a.tmps.getD 2 undef=.pointer (O ⟨B,0,Y⟩)/\w.heap[B]?=O (.cells #[.int .i64 0,.int .i64 0,.int .i64 0,.int .i64 0] t (0,0))/\aL PP E.plain w0 I0 f50.ntmps {q with b:=aa q.b 2 Y} a w I be/\KR E.plain w0 w I be {q with b:=aa q.b 2 Y} B:=by
 obtain⟨_,Q,cs,f,v,y⟩:=i.cells (Ny x default);obtain⟨B,cur,t,g,hw,z,A⟩:=c.bG 2 _ f;have C:cs.length=4:=v.symm;have D:∀j:Nat,j<4->cur.getD j undef=.int .i64 0:=λj k=>by
  have l:([.val ahr (0:Int),.val ahr (0:Int),.val ahr (0:Int),.val ahr (0:Int)]:Z (R U.C))[j]?=O (.val ahr (0:Int)):=by
   match j,k with
   |0,_=>rfl|1,_=>rfl
   |2,_=>rfl|3,_=>rfl
  have m:cs[j]?=O (cs[j]'M):=bS _;have G:=y j _ _ l m;have o:=A j _ m;have H:cs[j]'M=.val (.fl (.int .i64 0)):=by exact Rm G
  rw[H]at o;exact cb o
 have J:cur=#[.int .i64 0,.int .i64 0,.int .i64 0,.int .i64 0]:=by
  apply yT
  .rw[z,C];rfl
  .intro j l m;have:=D j M;simp only[jl,qP l,eP]at this;rw[this];have:j<4:=M;match j,this with
   |0,_=>rfl|1,_=>rfl
   |2,_=>rfl|3,_=>rfl
 subst J;have p:=i.cu 2;rw[YA]at p;have K:=iY i p (Ny x default);have h:=c.cu 2 cd;rw[K]at h;obtain⟨_,h⟩:=h;obtain⟨B',r,hv⟩:=h rfl (by rw[f];simp);rw[g]at r;cases r;obtain⟨o1,o2,o3,L⟩:=c.bU 2 B (by rw[f];simp) g;refine⟨B,t,by simpa using hv,hw,c.drop 2,⟨cm.fp o1,o2,o3,L,λd s n=>?_,λj k n=>?_⟩⟩
 .have u:d≠2:=λe=>by subst e;simp at s
  have P:q.b d≠Y:=by simpa[aJ _ _ u]using s
  exact u (c.inj d 2 B P (by rw[f];simp) n g)
 .exact (c.bb.bU j B k n).2.2.2.2 ⟨2,by rw[f];simp,g⟩
noncomputable def wg:Array JB:=match OE (Gs ih)with|.region _ a _=>a|_=>#[]
noncomputable def Nz:JB:=wg.getD 0 default
noncomputable def Jc:JB:=wg.getD 1 default
def Vy:OE (Gs ih)=.region 1 wg F:=au
def Sd:Nz.op=.makeFunc (.func 141) #[] #[.tmp 2]:=au
def Se:Jc.op=.defer {callee:=.value (.tmp 3),args:=#[],argTypes:=#[]}:=au
noncomputable def wh:Array JB:=match OE (me 8 (Gs (Gs ih)))with|.region _ a _=>a|_=>#[]
noncomputable def NA:JB:=wh.getD 0 default
noncomputable def Sf:JB:=wh.getD 1 default
def YC:me 8 (Gs (Gs ih))=.seq (.region 10 wh F) .ret:=au
def Sg:NA.op=.build 68 #[]:=au
def Si:Sf.op=.store 68 (.tmp 2) (.tmp 37):=au
def Vz{w:zI}{p:Mc}(c:a.tmps.getD 2 undef=.pointer (O p))(e:a.tmps.size=f50.ntmps)
  (h:∀d:Deferred,d.target=.fn (.func 141) #[.pointer (O p)]->d.args=#[]->Q .normal {(a.put (O 3) (.func (.func 141) #[] #[.pointer (O p)]))with defers:=d::a.defers} w):(OE (Gs ih)).wp PP Q a w:=by
 have f:a.tmps[2]?.getD undef=.pointer (O p):=by simpa[jl]using c
 have g:3<a.tmps.size:=by rw[e];decide
 rw[Vy];refine pz ?_;have i:List.range wg.size=[0,1]:=au;rw[i];refine X.js (w':=w) (o:=Nz) (v:=.func (.func 141) #[] #[.pointer (O p)]) au au ?_ ?_
 .simp[Act.eval,execOp,Sd,f,go_sem,Instr.makeFunc]
 .have b:Nz.dst=O 3:=au;have j:Jc.dst=Y:=au;have e2:wg[1]?=O Jc:=au;have g2:Jc.guard=Y:=au;simp only[wpOps,e2,Region.wanted,g2,ca];refine .inl ?_;unfold Oper.wp;have k:(execOp (a.put Nz.dst (.func (.func 141) #[] #[.pointer (O p)])).eval Jc).run PP w=.ok (.defer {target:=.fn (.func 141) #[.pointer (O p)],args:=#[]}) w:=by simp[Act.eval,Act.put,execOp,Se,b,g,go_sem,resolve]
  rw[k,Oper.upon_defer,j,b];exact h _ rfl rfl
def VA(w:zI)(ρ:qm->Jz):(execOp ρ NA).run PP w=.ok (.value (.agg #[.int .i64 0,.int .i64 0,.int .i64 0,.int .i64 0])) w:=by simp[execOp,Sg];kernel_rfl
def Jd{w:zI}{B:Nat}{cur:Array Jz}(h:w.heap[B]?=O (.cells cur t (0,0))):w.setRow B cur=w:=by
 have c:B<w.heap.size:=(h4.1 h).1;have hv:w.heap[B]=.cells cur t (0,0):=(h4.1 h).2;have a:∀f:Obj->Obj,f (.cells cur t (0,0))=.cells cur t (0,0)->w.heap.modify B f=w.heap:=λf b=>by
  apply yT
  .simp
  .intro j d g;rw[Array.getElem_modify];split
   .rename_i e;subst e;rw[hv,b]
   .rfl
 unfold World.setRow;rw[a];rfl
abbrev NB:Array Jz:=#[.int .i64 0,.int .i64 0,.int .i64 0,.int .i64 0]
def aa1{w:zI}{B:Nat}(f:a.tmps.getD 2 undef=.pointer (O ⟨B,0,Y⟩))(g:a.tmps.size=f50.ntmps)(e:w.heap[B]?=O (.cells NB t (0,0)))
  (h:Q .ret (a.put (O 37) (.agg NB)) w):(me 8 (Gs (Gs ih))).wp PP Q a w:=by
 have i:a.tmps[2]?.getD undef=.pointer (O ⟨B,0,Y⟩):=by simpa[jl]using f
 have j:37<a.tmps.size:=by rw[g];decide
 rw[YC];refine wp_seq (pz ?_);have k:List.range wh.size=[0,1]:=au;have l:NA.dst=O 37:=au;have m:Sf.dst=Y:=au;rw[k];refine X.js (w':=w) (o:=NA) (v:=.agg NB) au au (VA _ _) ?_;rw[l];refine Jb (o:=Sf) (w':=w) au au ?_ ?_
 .have:=Nw (a:=0) (b:=0) (c:=0) (d:=0) e;rw[Jd e]at this;simp[Act.eval,Act.put,execOp,Si,i,j,this]
 .rw[m];exact wp_ret h
def Wp{a:Array Jz}{w:zI}{B:Nat}{b c d f:Jz}(i:a.getD 2 undef=.pointer (O ⟨B,0,Y⟩))(k:w.heap[B]?=O (.cells #[b,c,d,f] t (0,0))):
  (results f50 a).run PP w=.ok (.agg #[b,c,d,f]) w:=by
 have l:a[2]?.getD undef=.pointer (O ⟨B,0,Y⟩):=by simpa[jl]using i
 have m:k7 PP 68=O W:=au;have g:PP.cellsOf 68=4:=au;have h:=F2 (P:=PP) (w:=w) (t:=68) (p:=⟨B,0,Y⟩) (vs:=[b,c,d,f]) (λj v hv=>by
  have n:(⟨B,0,Y⟩:Mc).add j=⟨B,j,Y⟩:=by unfold Addr.add;by_cases e:j=0<;>simp[e]
  rw[n];simp only[World.cell?,k];simpa using hv) m (by rw[g];decide) (by rw[g];exact a6 _)
 rw[g]at h;have o:f50.results=#[.cell 2 68]:=au;simp[results,o];rw[l];simp only[asAddr,cF,cz];exact h
def Sj{w:zI}{I:aD}{n:Nat}{q:St}(d:aL PP E.plain w0 I0 n q a w I be)(y:gW):
  Ho PP E.plain w0 I0 w qH km (pc (U:=U) TT [.v Yl] Y y) (.returned (.agg #[.int .i64 y.Wd,.int .i64 y.eB,.int .i64 y.part,.int .i64 y.gd])):=by
 refine⟨_,I,λ_=>Y,rfl,d.since,?_,λj e B h=>(by cases h),λj B h=>(by cases h),my.none λ_=>rfl⟩;show cq w I _ (.agg [.fl (.int .i64 y.Wd),.fl (.int .i64 y.eB),.fl (.int .i64 y.part),.fl (.int .i64 y.gd)]);refine .agg _ _ rfl λj c b=>?_;match j,b with
 |0,b=>simp at b;subst b;exact .fl _ rfl|1,b=>simp at b;subst b;exact .fl _ rfl
 |2,b=>simp at b;subst b;exact .fl _ rfl|3,b=>simp at b;subst b;exact .fl _ rfl
 |j+4,b=>simp at b
def Wq(a:B8 E)(N:Nat):bP PP E TT (Sc N):=rJ SS.yG SS.ak a.ro (Yk N E a)
def Wr{w:zI}{I:aD}{b:Z Deferred}{B:Nat}(h:pA w I b [.fn 141 [.fl (.pointer (O ⟨B,0,Y⟩))]]):b=[{target:=.fn (.func 141) #[.pointer (O ⟨B,0,Y⟩)],args:=#[]}]:=by
 obtain⟨h1,a⟩:=h;match b,h1,a with
 |[d],_,a=>
  obtain⟨f,vs,caps,q1,c,e,g⟩:=a 0 d _ rfl rfl;cases q1;have i:vs=#[.pointer (O ⟨B,0,Y⟩)]:=by
   cases g with
   |fn f vs caps k l=>
    have h0:=cb (l 0 _ rfl);have m:vs.size=1:=k;apply yT
    .rw[m];rfl
    .intro j h1 a;have:j=0:=M;subst this;simpa[jl,h1]using h0
  obtain⟨t,n⟩:=d;simp only at c e;subst c e i;rfl
def EG{B:Nat}{w:zI}:(invoke (.fn (.func 141) #[.pointer (O ⟨B,0,Y⟩)]) #[]).run PP w=.ok (.enter 141 #[.pointer (O ⟨B,0,Y⟩)]) w:=au
def Sk{w:zI}{I:aD}{v:Jz}{e:kJ}(h:cq w I v (.mQ 250 (enc TT GB e))):v=.iface 250 (.agg #[.int .i64 e.f.Wd,.int .i64 e.f.eB,.int .i64 e.f.part,.int .i64 e.f.gd]):=by
 cases h with
 |mQ t v x b=>
  have g:enc TT GB e=.agg [.fl (.int .i64 e.f.Wd),.fl (.int .i64 e.f.eB),.fl (.int .i64 e.f.part),.fl (.int .i64 e.f.gd)]:=rfl;rw[g]at b;cases b with
  |agg vs cs i b=>
   have k:vs.size=4:=i;have h0:=cb (b 0 _ rfl);have c:=cb (b 1 _ rfl);have d:=cb (b 2 _ rfl);have f:=cb (b 3 _ rfl);congr 2;apply yT
   .rw[k];rfl
   .intro j a l;simp only[jl]at h0 c d f;match j,a with
    |0,a=>simpa[qP a]using h0|1,a=>simpa[qP a]using c
    |2,a=>simpa[qP a]using d|3,a=>simpa[qP a]using f
    |j+4,a=>omega
def YD(l0:B8 E){x:cW}{y:gW}{q:St}{w:zI}(K:gi PP E.plain w0 I0 f50.ntmps q a w)(a0:aX PP E.plain TT (Sc N) (Vw x default) q)(J0:a.defers=[])(m0:q.df=[])(G:Zi N x=O y):
  (Code.seq (OE (Gs ih)) (Gs (Gs ih))).wp PP (bodyPostD PP f50 λe w=>Ho PP E.plain w0 I0 w qH km (pc (U:=U) TT [.v Yl] Y y) e) a w:=by
 obtain⟨I,be,K⟩:=K;obtain⟨B,b0,c0,hw,n0,d0⟩:=Vx K a0;have e0:=d0.new;refine wp_seq (Vz c0 K.size λd o0 p0=>?_);let df:Z AV:=[.fn 141 [.fl (.pointer (O ⟨B,0,Y⟩))]]
 let o:cm:=E.plain.pE B (.cells NB b0 (0,0)) df;have q0:aL PP o w0 I0 f50.ntmps {q with r:=aa (aa q.r 3 .none) 2 (.val (.fl (.pointer (O ⟨B,0,Y⟩)))),b:=aa q.b 2 Y,df:=df} {(a.put (O 3) (.func (.func 141) #[] #[.pointer (O ⟨B,0,Y⟩)]))with defers:=d::a.defers} w I be:=by
  have h1:=aL.pE (df:=df) n0 d0 hw;have z:=h1.put (O 3) (v:=.func (.func 141) #[] #[.pointer (O ⟨B,0,Y⟩)]) (r:=.none) trivial;have C:=z.deferred o0 p0 (f:=141) (caps:=[.fl (.pointer (O ⟨B,0,Y⟩))]) (.fn _ _ _ rfl λj c L=>by
   match j,L with
   |0,L=>simp at L;subst L;exact .fl _ rfl)
  have H:=C.ZK 2 (u:=.val (.fl (.pointer (O ⟨B,0,Y⟩)))) (λ_=>by
   have:(a.put (O 3) (.func (.func 141) #[] #[.pointer (O ⟨B,0,Y⟩)])).tmps.getD 2 undef=.pointer (O ⟨B,0,Y⟩):=by simp only[Act.put,jl];rw[Dy cd];simpa[jl]using c0
   simp only[this];exact .fl _ rfl)
  have D:(.fn 141 [.fl (.pointer (O ⟨B,0,Y⟩))]::q.df:Z AV)=df:=by rw[m0]
  simp only[St.put,D]at H;exact H
 have r0:aX PP o TT (Sc N) (t63 x default) {q with r:=aa (aa q.r 3 .none) 2 (.val (.fl (.pointer (O ⟨B,0,Y⟩)))),b:=aa q.b 2 Y,df:=df}:=by have h1:=Ue (E':=o) (X':=Sc N) rfl (a0.drop 2) (YB x default);have z:=h1.put (O 3) (r:=.none) (u:=.none) (.none _);exact z.put (O 2) (r:=.it) (u:=.val (.fl (.pointer (O ⟨o.it,0,Y⟩)))) .it
 unfold Zi at G;obtain⟨r,s0,G⟩:=bind_some G;have f0:∀(s':S U.C)(i:St),aX PP o TT (Sc N) s' i->Dk (s'.bQ 2)=W->i.r 2=.val (.fl (.pointer (O ⟨B,0,Y⟩))):=λs' i h1 A=>by
  have:=h1.cu 2;unfold Dk at A;split at A
  .rename_i e;rw[e]at this;generalize i.r 2=u at this;cases this with
   |it=>rfl
  .cases A
 have t0:=(afJ N x default).trans s0;have u0:bP PP o TT (Sc N):=Wq (E:=o) ⟨λ_=>rfl,λw h=>l0.laid w (show E.h5 w/\_ from h).1⟩ N;refine wp_mono (xu (E:=o) (sB:=t63 x default) SS.L SS.mo u0 (λ⟨k,P⟩=>by rw[aa0]at P;cases P) (Zloc:=λav i=>(∃e:kJ,r=.error e/\av=.mQ 250 (enc TT GB e))/\i.df=df/\i.r 2=.val (.fl (.pointer (O ⟨B,0,Y⟩)))) (λav i v0=>?_) 8 (Gs (Gs ih)) (t63 x default) k63 _ (λe i=>e=.ret/\r=.ok ()/\i.df=df/\i.r 2=.val (.fl (.pointer (O ⟨B,0,Y⟩)))) au (.refl _) t0 r0 (λs' i h1 z C=>?_) _ w ⟨I,be,q0⟩) λe a' w' m=>?_
 .obtain ⟨p,s',g1,g2,g3,g4,rfl⟩:=v0;simp only[aaZ,Dc]at g3;obtain⟨A,g3⟩:=aA g3;obtain⟨D,g3⟩:=aA g3;have D:=bV D;split at g3
  .rename_i e m;obtain⟨g0,rfl⟩:=bN m;obtain⟨K0,L0,x0⟩:=p;simp only at D g0 m;subst D g0;cases g3;exact⟨⟨x0,rfl,rfl⟩,g1.df,f0 _ _ g1 A⟩
  .cases g3
 .simp only[k63]at C;obtain⟨A,C⟩:=aA C;cases C;have h0:=f0 _ _ h1 A;intro a' w' g;obtain⟨I',R,g⟩:=g;have H:=g.cu 2 cd;rw[h0]at H;have y0:=cb H;refine aa1 y0 g.size g.since.h5.2.2 ?_;exact⟨i.put (O 37) .none,⟨I',R,g.put (O 37) trivial⟩,rfl,rfl,h1.df,by simpa[St.put,aa]using h0⟩
 .cases e with
  |normal=>obtain ⟨s,_,h,_⟩:=m;cases h
  |exit id=>obtain ⟨s,_,h,_⟩:=m;cases h
  |goto l=>obtain ⟨s,_,h,_⟩:=m;cases h
  |outgrown=>exact m.elim|ret=>obtain⟨s,⟨I',R,g⟩,_,rfl,h1,z⟩:=m;obtain⟨g1,g2,g3⟩:=g.Q9 e0;have n:=g.defers;rw[h1]at n;have n:=Wr n;have J:=g.cu 2 cd;rw[z]at J;have T:=cb J;cases G;show Leaves PP _ _ _ a'.defers _ _;rw[n];refine leaves_cons aE EG ((Vv _ _).mono λe u' A0 X=>?_);obtain⟨rfl,rfl,rfl⟩:=X;exact⟨_,Wp T g3,Sj g1 (gW.mk 0 0 0 0)⟩
  |panic N0=>
   obtain⟨av,v,s,I',R,rfl,⟨⟨e,rfl,rfl⟩,h1,z⟩,g,B0⟩:=m;have J:=g.cu 2 cd;rw[z]at J;have T:=cb J;obtain⟨g1,g2,g3⟩:=g.Q9 e0;have n:=g.defers;rw[h1]at n;have n:=Wr n;have hv:=Sk B0;subst hv;cases G;show Leaves PP _ _ _ a'.defers _ _;rw[n];refine leaves_cons aE EG ((Sb b0 B _ _ _ _ _ _ _ _ _ _ g3).mono λe' u' A0 X=>?_);obtain⟨rfl,rfl,C0,D0,E0,G0,i0,j0⟩:=X;have g4:=g1.Wa g2 C0 D0 E0 G0 (λk P H0=>i0 k H0 P) λB' cur t P0 Q=>by
    by_cases e':B'=B
    .subst e';rw[g3]at Q;cases Q;exact⟨_,j0,rfl⟩
    .exact ⟨cur,(i0 B' (h4.1 Q).1 e').trans Q,rfl⟩
   exact⟨_,Wp T j0,Sj g4 e.f⟩
def G50(N:Nat):Holds 50 (K50 N):=λE f=>hp au (by
 intro x o r t u;obtain⟨w,y⟩:=K8 (P:=PP) (E:=E) (X:=Sc N) t (default:Hp);have i:PP.funcs[50]?=O f50:=au;have j:f50.body=O ih:=au;have m:=Wq (E:=E.plain) f.plain N;have z:ih=.seq (OE ih) (.seq (OE (Gs ih)) (Gs (Gs ih))):=au;refine⟨Go.Proofs.enters_of i au j,λw0 I0 vs A B C=>calls_of_wp_defers i j ?_⟩;have D:=OF (E:=E) (P:=PP) (n:=f50.ntmps) A B C (by rw[w];decide);rw[z];refine wp_seq (wp_mono (mI (out:=Vw x default) (sB:=xx (U:=U) [U6] x (default:Hp)) (kx:=λ_ _=>Y) (esc:=[(1,998)]) (Zloc:=λ_ _=>False) SS.L m (λ⟨k,G⟩=>by cases G) (mJ SS.L SS.mo m) (λav H J=>by obtain ⟨p,s',_,_,g,_⟩:=J;cases g) (OE ih) .aC _ _ (entry o) (λe q=>e=.normal/\aX PP E.plain TT (Sc N) (Vw x default) q) au (.refl _) (Yz N x default) y (λe s' H K L c=>?_) _ _ D) λe Q R b=>?_)
 .cases e with
  |normal=>cases c;exact ⟨rfl,K⟩
  |exit id=>cases c
  |ret=>cases c
 .cases e with
  |normal=>obtain⟨q1,a,_,d⟩:=b;refine YD f a d ?_ d.df u;obtain⟨I,be,a⟩:=a;have:=a.defers;rw[d.df]at this;exact this.JV|exit id=>obtain ⟨q1,a,h,_⟩:=b;cases h
  |goto l=>obtain ⟨q1,a,h,_⟩:=b;cases h
  |ret=>obtain ⟨q1,a,h,_⟩:=b;cases h
  |panic S=>obtain ⟨x,v,s,I,be,_,h,_⟩:=b;exact h.elim|outgrown=>exact b.elim)
end Go.Proofs.Mo
