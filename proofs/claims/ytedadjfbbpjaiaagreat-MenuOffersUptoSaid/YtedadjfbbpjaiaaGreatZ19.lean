import Derived.Test.YtedadjfbbpjaiaaGreatZ18
set_option linter.all false
set_option maxRecDepth 20000
noncomputable section
namespace Go.Proofs.Mo
open Go Go.Ev Go.X
variable{a:Act}{E:Env}{w0:World}{I0:Cells}{t:TypeId}{N:Nat}{be:Nat->Option Nat}{Q:Exit->Act->World->Prop}
noncomputable def gF:Code:=Tryz.f63.body.getD .skip
noncomputable abbrev Vj (N:Nat):Ctx U:=XB N (Z7 N)
noncomputable def YE (x:bT) (h:Hp):S U.C:=match exec (α:=S U.C) (U:=U) (XB 0 []) (λ_ _=>none) [(1,998)] (RH gF) .leaf (Ab (U:=U) [YC] x h) (λe s=>match e with|.normal=>some s|_=>none)with
 |some s=>s|none=>Ab (U:=U) [YC] x h
theorem aca(N:Nat)(x:bT)(h:Hp):exec (α:=S U.C) (U:=U) (Vj N) (λ_ _=>none) [(1,998)] (RH gF) .leaf (Ab (U:=U) [YC] x h) (λe s=>match e with|.normal=>some s|_=>none)=some (YE x h):=by kernel_rfl
theorem PL(x:bT)(h:Hp):(YE x h).box 2=some (.cells ab9 [.val (.int .i64) (0:Int),.val (.int .i64) (0:Int),.val (.int .i64) (0:Int),.val (.int .i64) (0:Int)]):=by kernel_rfl
theorem acb(x:bT)(h:Hp):(YE x h).look 2=.loc 2 0:=by kernel_rfl
theorem acd(x:bT)(h:Hp):((YE x h).drop 2).pl false=true:=by kernel_rfl
noncomputable def t63 (x:bT) (h:Hp):S U.C:=(((YE x h).drop 2).put (some 3) .none).put (some 2) .it
def FE{C:Nat->Type}:R C->Bool
 |.it=>true|_=>false
noncomputable def k63 (s:S U.C):Option (Except l8 Unit):=bif FE (s.look 2)then some (Except.ok ())else none
noncomputable def afA (p:tz U) (s:S U.C):Option (Except l8 Unit):=bif FE (s.look 2)then Fs (U:=U) (β:=Unit) (some (212,I8)) p else none
theorem afB(x:bT)(h:Hp)(k:Nat):(t63 x h).m k=false:=by kernel_rfl
theorem ajN(N:Nat)(x:bT)(h:Hp):Ef (α:=Except l8 Unit) (U:=U) (Vj N) afA [(1,998)] 8 (E9 (E9 gF)) (t63 x h) k63=C63 N x:=by kernel_rfl
theorem YF{x:bT}{q:St}{w:World}{I:Cells}(hR:aC PP E.plain w0 I0 Tryz.f63.ntmps q a w I be)(hS:aN PP E.plain TT (Vj N) (YE x default) q):
  ∃B t,a.tmps.getD 2 undef=.pointer (some ⟨B,0,none⟩)/\w.heap[B]?=some (.cells #[.int .i64 0,.int .i64 0,.int .i64 0,.int .i64 0] t (0,0))/\aC PP E.plain w0 I0 Tryz.f63.ntmps {q with b:=bF q.b 2 none} a w I be/\Lone E.plain w0 w I be {q with b:=bF q.b 2 none} B:=by
 obtain⟨_,hn,cs,hq,hl,hc⟩:=hS.cells (PL x default);obtain⟨B,cur,t,Sc,hw,dh,dH⟩:=hR.boxes 2 _ hq;have hlen:cs.length=4:=hl.symm;have jm:∀j:Nat,j<4->cur.getD j undef=.int .i64 0:=λj hj=>by
  have h1:([.val (.int .i64) (0:Int),.val (.int .i64) (0:Int),.val (.int .i64) (0:Int),.val (.int .i64) (0:Int)]:List (R U.C))[j]?=some (.val (.int .i64) (0:Int)):=by
   match j,hj with
   |0,_=>rfl|1,_=>rfl
   |2,_=>rfl|3,_=>rfl
  have h2:cs[j]?=some (cs[j]'(by omega)):=cq _;have h3:=hc j _ _ h1 h2;have h4:=dH j _ h2;have h5:cs[j]'(by omega)=.val (.fl (.int .i64 0)):=by exact U2 h3
  rw[h5]at h4;exact bR h4
 have sw:cur=#[.int .i64 0,.int .i64 0,.int .i64 0,.int .i64 0]:=by
  apply CL
  ·rw[dh,hlen];rfl
  ·intro j h1 h2;have:=jm j (by omega);simp only[jI,sW h1,dB]at this;rw[this];have:j<4:=by omega
   match j,this with
   |0,_=>rfl|1,_=>rfl
   |2,_=>rfl|3,_=>rfl
 subst sw;have J5:=hS.cr 2;rw[acb]at J5;have Ww:=nt hS J5 (PL x default);have hp:=hR.cr 2 (by decide);rw[Ww]at hp;obtain⟨_,hp⟩:=hp;obtain⟨B',cZ,hv⟩:=hp rfl (by rw[hq];simp);rw[Sc]at cZ;cases cZ;obtain⟨o1,o2,o3,o4⟩:=hR.own 2 B (by rw[hq];simp) Sc;refine⟨B,t,by simpa using hv,hw,hR.drop 2,⟨Env.fw o1,o2,o3,o4,λd hd hB=>?_,λj hj hB=>?_⟩⟩
 ·have xh:d≠2:=λe=>by subst e;simp at hd
  have fF:q.b d≠none:=by simpa[ay _ _ xh]using hd
  exact xh (hR.inj d 2 B fF (by rw[hq];simp) hB Sc)
 ·exact (hR.aO.own j B hj hB).2.2.2.2 ⟨2,by rw[hq];simp,Sc⟩
noncomputable def yx:Array Oper:=match RH (E9 gF)with|.region _ ops _=>ops|_=>#[]
noncomputable def P0:Oper:=yx.getD 0 default
noncomputable def Ly:Oper:=yx.getD 1 default
theorem YG:RH (E9 gF)=.region 1 yx false:=by kernel_rfl
theorem Vk:P0.op=.makeFunc (.func 123) #[] #[.tmp 2]:=by kernel_rfl
theorem Vl:Ly.op=.defer {callee:=.value (.tmp 3),args:=#[],argTypes:=#[]}:=by kernel_rfl
noncomputable def yy:Array Oper:=match RH (qk 8 (E9 (E9 gF)))with|.region _ ops _=>ops|_=>#[]
noncomputable def P1:Oper:=yy.getD 0 default
noncomputable def Vm:Oper:=yy.getD 1 default
theorem ace:qk 8 (E9 (E9 gF))=.seq (.region 10 yy false) .ret:=by kernel_rfl
theorem Vn:P1.op=.build 52 #[]:=by kernel_rfl
theorem Vo:Vm.op=.store 52 (.tmp 2) (.tmp 37):=by kernel_rfl
theorem YH{w:World}{p:Addr}(ha:a.tmps.getD 2 undef=.pointer (some p))(dh:a.tmps.size=Tryz.f63.ntmps)
  (h:∀d:Deferred,d.target=.fn (.func 123) #[.pointer (some p)]->d.args=#[]->Q .normal {(a.put (some 3) (.func (.func 123) #[] #[.pointer (some p)]))with defers:=d::a.defers} w):(RH (E9 gF)).wp PP Q a w:=by
 have MJ:a.tmps[2]?.getD undef=.pointer (some p):=by simpa[jI]using ha
 have h3:3<a.tmps.size:=by rw[dh];decide
 rw[YG];refine qd ?_;have hl:List.range yx.size=[0,1]:=by kernel_rfl
 rw[hl];refine X.kn (w':=w) (o:=P0) (v:=.func (.func 123) #[] #[.pointer (some p)]) (by kernel_rfl) (by kernel_rfl) ?_ ?_
 ·simp[Act.eval,execOp,Vk,MJ,go_sem,Instr.makeFunc]
 ·have hd:P0.dst=some 3:=by kernel_rfl
  have xh:Ly.dst=none:=by kernel_rfl
  have e2:yx[1]?=some Ly:=by kernel_rfl
  have g2:Ly.guard=none:=by kernel_rfl
  simp only[wpOps,e2,Region.wanted,g2,bp];refine .inl ?_;unfold Oper.wp;have cu:(execOp (a.put P0.dst (.func (.func 123) #[] #[.pointer (some p)])).eval Ly).run PP w=.ok (.defer {target:=.fn (.func 123) #[.pointer (some p)],args:=#[]}) w:=by simp[Act.eval,Act.put,execOp,Vl,hd,h3,go_sem,resolve]
  rw[cu,Oper.upon_defer,xh,hd];exact h _ rfl rfl
theorem YI(w:World)(ρ:Operand->Value):(execOp ρ P1).run PP w=.ok (.value (.agg #[.int .i64 0,.int .i64 0,.int .i64 0,.int .i64 0])) w:=by simp[execOp,Vn];kernel_rfl
theorem setRow_self{w:World}{B:Nat}{cur:Array Value}(h:w.heap[B]?=some (.cells cur t (0,0))):w.setRow B cur=w:=by
 have eK:B<w.heap.size:=(eT.1 h).1;have hv:w.heap[B]=.cells cur t (0,0):=(eT.1 h).2;have key:∀f:Obj->Obj,f (.cells cur t (0,0))=.cells cur t (0,0)->w.heap.modify B f=w.heap:=λf hf=>by
  apply CL
  ·simp
  ·intro j h1 h2;rw[Array.getElem_modify];split
   ·rename_i e;subst e;rw[hv,hf]
   ·rfl
 unfold World.setRow;rw[key];rfl
abbrev P2:Array Value:=#[.int .i64 0,.int .i64 0,.int .i64 0,.int .i64 0]
theorem afC{w:World}{B:Nat}(ha:a.tmps.getD 2 undef=.pointer (some ⟨B,0,none⟩))(dh:a.tmps.size=Tryz.f63.ntmps)(hw:w.heap[B]?=some (.cells P2 t (0,0)))
  (h:Q .ret (a.put (some 37) (.agg P2)) w):(qk 8 (E9 (E9 gF))).wp PP Q a w:=by
 have MJ:a.tmps[2]?.getD undef=.pointer (some ⟨B,0,none⟩):=by simpa[jI]using ha
 have h3:37<a.tmps.size:=by rw[dh];decide
 rw[ace];refine wp_seq (qd ?_);have hl:List.range yy.size=[0,1]:=by kernel_rfl
 have hd:P1.dst=some 37:=by kernel_rfl
 have xh:Vm.dst=none:=by kernel_rfl
 rw[hl];refine X.kn (w':=w) (o:=P1) (v:=.agg P2) (by kernel_rfl) (by kernel_rfl) (YI _ _) ?_;rw[hd];refine Lx (o:=Vm) (w':=w) (by kernel_rfl) (by kernel_rfl) ?_ ?_
 ·have:=Pz (a:=0) (b:=0) (c:=0) (d:=0) hw;rw[setRow_self hw]at this;simp[Act.eval,Act.put,execOp,Vo,MJ,h3,this]
 ·rw[xh];exact wp_ret h
theorem Z9{a:Array Value}{w:World}{B:Nat}{x1 x2 x3 x4:Value}(ha:a.getD 2 undef=.pointer (some ⟨B,0,none⟩))(hw:w.heap[B]?=some (.cells #[x1,x2,x3,x4] t (0,0))):
  (results Tryz.f63 a).run PP w=.ok (.agg #[x1,x2,x3,x4]) w:=by
 have MJ:a[2]?.getD undef=.pointer (some ⟨B,0,none⟩):=by simpa[jI]using ha
 have Jw:nS PP 52=some true:=by kernel_rfl
 have hc:PP.cellsOf 52=4:=by kernel_rfl
 have hl:=sH (P:=PP) (w:=w) (t:=52) (p:=⟨B,0,none⟩) (vs:=[x1,x2,x3,x4]) (λj v hv=>by
  have QF:(⟨B,0,none⟩:Addr).add j=⟨B,j,none⟩:=by unfold Addr.add;by_cases e:j=0<;>simp[e]
  rw[QF];simp only[World.cell?,hw];simpa using hv) Jw (by rw[hc];decide) (by rw[hc];exact aP _)
 rw[hc]at hl;have hr:Tryz.f63.results=#[.cell 2 52]:=by kernel_rfl
 simp[results,hr];rw[MJ];simp only[asAddr,b9,bX];exact hl
theorem Vp{w:World}{I:Cells}{n:Nat}{q:St}(hR:aC PP E.plain w0 I0 n q a w I be)(y:ia):
  Hu PP E.plain w0 I0 w sY lN (qU (U:=U) TT [.v ab9] none y) (.returned (.agg #[.int .i64 y.Z3,.int .i64 y.Z4,.int .i64 y.part,.int .i64 y.err])):=by
 refine⟨_,I,λ_=>none,rfl,hR.since,?_,λj j' B h=>(by cases h),λj B h=>(by cases h),nQ.none λ_=>rfl⟩;show cj w I _ (.agg [.fl (.int .i64 y.Z3),.fl (.int .i64 y.Z4),.fl (.int .i64 y.part),.fl (.int .i64 y.err)]);refine .agg _ _ rfl λj c hj=>?_;match j,hj with
 |0,hj=>simp at hj;subst hj;exact .fl _ rfl|1,hj=>simp at hj;subst hj;exact .fl _ rfl
 |2,hj=>simp at hj;subst hj;exact .fl _ rfl|3,hj=>simp at hj;subst hj;exact .fl _ rfl
 |j+4,hj=>simp at hj
theorem aaa(hE:∀i,E.ro i=none)(N:Nat):bG PP E TT (Vj N):=Ej SS.El SS.ak hE (ab8 N E hE)
theorem aab{w:World}{I:Cells}{ds:List Deferred}{B:Nat}(h:rn w I ds [.fn 123 [.fl (.pointer (some ⟨B,0,none⟩))]]):ds=[{target:=.fn (.func 123) #[.pointer (some ⟨B,0,none⟩)],args:=#[]}]:=by
 obtain⟨h1,h2⟩:=h;match ds,h1,h2 with
 |[d],_,h2=>
  obtain⟨f,vs,caps,q1,q2,q3,q4⟩:=h2 0 d _ rfl rfl;cases q1;have AO:vs=#[.pointer (some ⟨B,0,none⟩)]:=by
   cases q4 with
   |fn f vs caps hl hr=>
    have h0:=bR (hr 0 _ rfl);have hs:vs.size=1:=hl;apply CL
    ·rw[hs];rfl
    ·intro j h1 h2;have:j=0:=by omega
     subst this;simpa[jI,h1]using h0
  obtain⟨t,ds2⟩:=d;simp only at q2 q3;subst q2 q3 AO;rfl
theorem G2{B:Nat}{w:World}:(invoke (.fn (.func 123) #[.pointer (some ⟨B,0,none⟩)]) #[]).run PP w=.ok (.enter 123 #[.pointer (some ⟨B,0,none⟩)]) w:=by kernel_rfl
theorem Vq{w:World}{I:Cells}{v:Value}{e:l8}(h:cj w I v (.mI 212 (enc TT I8 e))):v=.iface 212 (.agg #[.int .i64 e.f.Z3,.int .i64 e.f.Z4,.int .i64 e.f.part,.int .i64 e.f.err]):=by
 cases h with
 |mI t v x hr=>
  have he:enc TT I8 e=.agg [.fl (.int .i64 e.f.Z3),.fl (.int .i64 e.f.Z4),.fl (.int .i64 e.f.part),.fl (.int .i64 e.f.err)]:=rfl;rw[he]at hr;cases hr with
  |agg vs cs hl hr=>
   have hs:vs.size=4:=hl;have h0:=bR (hr 0 _ rfl);have h1:=bR (hr 1 _ rfl);have h2:=bR (hr 2 _ rfl);have h3:=bR (hr 3 _ rfl);congr 2;apply CL
   ·rw[hs];rfl
   ·intro j g1 g2;simp only[jI]at h0 h1 h2 h3;match j,g1 with
    |0,g1=>simpa[sW g1]using h0|1,g1=>simpa[sW g1]using h1
    |2,g1=>simpa[sW g1]using h2|3,g1=>simpa[sW g1]using h3
    |j+4,g1=>omega
theorem acf{x:bT}{y:ia}{q:St}{w:World}(hR:Rel PP E.plain w0 I0 Tryz.f63.ntmps q a w)(hS:aN PP E.plain TT (Vj N) (YE x default) q)(hda:a.defers=[])(E5:q.df=[])(hy:F63 N x=some y):
  (Code.seq (RH (E9 gF)) (E9 (E9 gF))).wp PP (bodyPostD PP Tryz.f63 λe w=>Hu PP E.plain w0 I0 w sY lN (qU (U:=U) TT [.v ab9] none y) e) a w:=by
 obtain⟨I,be,hR⟩:=hR;obtain⟨B,T0,ha,hw,RD,hB⟩:=YF hR hS;have Ux:=hB.new;refine wp_seq (YH ha hR.size λd sF xh=>?_);let df:List AV:=[.fn 123 [.fl (.pointer (some ⟨B,0,none⟩))]]
 let E2:Env:=E.plain.hold B (.cells P2 T0 (0,0)) df;have hR2:aC PP E2 w0 I0 Tryz.f63.ntmps {q with r:=bF (bF q.r 3 .none) 2 (.val (.fl (.pointer (some ⟨B,0,none⟩)))),b:=bF q.b 2 none,df:=df} {(a.put (some 3) (.func (.func 123) #[] #[.pointer (some ⟨B,0,none⟩)]))with defers:=d::a.defers} w I be:=by
  have h1:=aC.hold (df:=df) RD hB hw;have h2:=h1.put (some 3) (v:=.func (.func 123) #[] #[.pointer (some ⟨B,0,none⟩)]) (r:=.none) trivial;have h3:=h2.deferred sF xh (f:=123) (caps:=[.fl (.pointer (some ⟨B,0,none⟩))]) (.fn _ _ _ rfl λj c hj=>by
   match j,hj with
   |0,hj=>simp at hj;subst hj;exact .fl _ rfl)
  have h4:=h3.aeL 2 (u:=.val (.fl (.pointer (some ⟨B,0,none⟩)))) (λ_=>by
   have:(a.put (some 3) (.func (.func 123) #[] #[.pointer (some ⟨B,0,none⟩)])).tmps.getD 2 undef=.pointer (some ⟨B,0,none⟩):=by simp only[Act.put,jI];rw[JC (by decide)];simpa[jI]using ha
   simp only[this];exact .fl _ rfl)
  have e1:(.fn 123 [.fl (.pointer (some ⟨B,0,none⟩))]::q.df:List AV)=df:=by rw[E5]
  simp only[St.put,e1]at h4;exact h4
 have ID:aN PP E2 TT (Vj N) (t63 x default) {q with r:=bF (bF q.r 3 .none) 2 (.val (.fl (.pointer (some ⟨B,0,none⟩)))),b:=bF q.b 2 none,df:=df}:=by have h1:=X0 (E':=E2) (X':=Vj N) rfl (hS.drop 2) (acd x default);have h2:=h1.put (some 3) (r:=.none) (u:=.none) (.none _);exact h2.put (some 2) (r:=.it) (u:=.val (.fl (.pointer (some ⟨E2.it,0,none⟩)))) .it
 unfold F63 at hy;obtain⟨r,hC,hy⟩:=bind_some hy;have afD:∀(s':S U.C)(q':St),aN PP E2 TT (Vj N) s' q'->FE (s'.look 2)=true->q'.r 2=.val (.fl (.pointer (some ⟨B,0,none⟩))):=λs' q' h1 yS=>by
  have:=h1.cr 2;unfold FE at yS;split at yS
  ·rename_i e;rw[e]at this;generalize q'.r 2=u at this;cases this with
   |it=>rfl
  ·cases yS
 have hch:=(ajN N x default).trans hC;have hX2:bG PP E2 TT (Vj N):=aaa (λ_=>rfl) N;refine wp_mono (z6 (E:=E2) (sB:=t63 x default) SS.L SS.mo hX2 (λ⟨k,hk⟩=>by rw[afB]at hk;cases hk) (Z:=λav q'=>(∃e:l8,r=.error e/\av=.mI 212 (enc TT I8 e))/\q'.df=df/\q'.r 2=.val (.fl (.pointer (some ⟨B,0,none⟩)))) (λav q' hx=>?_) 8 (E9 (E9 gF)) (t63 x default) k63 _ (λe q'=>e=.ret/\r=.ok ()/\q'.df=df/\q'.r 2=.val (.fl (.pointer (some ⟨B,0,none⟩)))) (by kernel_rfl) (.refl _) hch ID (λs' q' h1 h2 h3=>?_) _ w ⟨I,be,hR2⟩) λe a' w' he=>?_
 ·obtain ⟨p,s',g1,g2,g3,g4,rfl⟩:=hx;simp only[afA,Fs]at g3;obtain⟨yS,g3⟩:=aq g3;obtain⟨e1,g3⟩:=aq g3;have e1:=bM e1;split at g3
  ·rename_i e he;obtain⟨e2,rfl⟩:=bH he;obtain⟨aew,pt,px⟩:=p;simp only at e1 e2 he;subst e1 e2;cases g3;exact⟨⟨px,rfl,rfl⟩,g1.df,afD _ _ g1 yS⟩
  ·cases g3
 ·simp only[k63]at h3;obtain⟨yS,h3⟩:=aq h3;cases h3;have J5:=afD _ _ h1 yS;intro a' w' lr;obtain⟨I',iK,lr⟩:=lr;have h4:=lr.cr 2 (by decide);rw[J5]at h4;have h5:=bR h4;refine afC h5 lr.size lr.since.inv.2.2 ?_;exact⟨q'.put (some 37) .none,⟨I',iK,lr.put (some 37) trivial⟩,rfl,rfl,h1.df,by simpa[St.put,bF]using J5⟩
 ·cases e with
  |normal=>obtain ⟨s,_,h,_⟩:=he;cases h
  |exit id=>obtain ⟨s,_,h,_⟩:=he;cases h
  |goto l=>obtain ⟨s,_,h,_⟩:=he;cases h
  |outgrown=>exact he.elim|ret=>obtain⟨s,⟨I',iK,lr⟩,_,rfl,h1,h2⟩:=he;obtain⟨g1,g2,g3⟩:=lr.UO Ux;have GP:=lr.defers;rw[h1]at GP;have GP:=aab GP;have uq:=lr.cr 2 (by decide);rw[h2]at uq;have hp:=bR uq;cases hy;show Leaves PP _ _ _ a'.defers _ _;rw[GP];refine leaves_cons (by simp) G2 ((YD _ _).mono λe u' w'' hh=>?_);obtain⟨rfl,rfl,rfl⟩:=hh;exact⟨_,Z9 hp g3,Vp g1 (ia.mk 0 0 0 0)⟩
  |panic chain=>
   obtain⟨av,v,s,I',iK,rfl,⟨⟨e,rfl,rfl⟩,h1,h2⟩,lr,dH⟩:=he;have uq:=lr.cr 2 (by decide);rw[h2]at uq;have hp:=bR uq;obtain⟨g1,g2,g3⟩:=lr.UO Ux;have GP:=lr.defers;rw[h1]at GP;have GP:=aab GP;have hv:=Vq dH;subst hv;cases hy;show Leaves PP _ _ _ a'.defers _ _;rw[GP];refine leaves_cons (by simp) G2 ((Vi T0 B _ _ _ _ _ _ _ _ _ _ g3).mono λe' u' w'' hh=>?_);obtain⟨rfl,rfl,k1,k2,k3,k4,k5,k6⟩:=hh;have g4:=g1.ZY g2 k1 k2 k3 k4 (λk hk eK=>k5 k eK hk) λB' cur t fr hc=>by
    by_cases e':B'=B
    ·subst e';rw[g3]at hc;cases hc;exact⟨_,k6,rfl⟩
    ·exact ⟨cur,(k5 B' (eT.1 hc).1 e').trans hc,rfl⟩
   exact⟨_,Z9 hp k6,Vp g4 e.f⟩
theorem G63(N:Nat):Holds 63 (K63 N):=λE hE=>jD (by kernel_rfl) (by
 intro x aX r dg hr;obtain⟨hlen,Sq⟩:=NP (P:=PP) (E:=E) (X:=Vj N) dg (default:Hp);have hf:PP.funcs[63]?=some Tryz.f63:=by kernel_rfl
 have hb:Tryz.f63.body=some gF:=by kernel_rfl
 have hX1:=aaa (E:=E.plain) (λ_=>rfl) N;have U7:gF=.seq (RH gF) (.seq (RH (E9 gF)) (E9 (E9 gF))):=by kernel_rfl
 refine⟨Go.Proofs.enters_of hf (by kernel_rfl) hb,λw0 I0 vs hinv hI acg=>calls_of_wp_defers hf hb ?_⟩;have hR0:=RI (E:=E) (P:=PP) (n:=Tryz.f63.ntmps) hinv hI acg (by rw[hlen];decide);rw[U7];refine wp_seq (wp_mono (pX (out:=YE x default) (sB:=Ab (U:=U) [YC] x (default:Hp)) (kx:=λ_ _=>none) (esc:=[(1,998)]) (Z:=λ_ _=>False) SS.L hX1 (λ⟨k,hk⟩=>by cases hk) (oP SS.L SS.mo hX1) (λav q' hx=>by obtain ⟨p,s',_,_,g,_⟩:=hx;cases g) (RH gF) .leaf _ _ (entry aX) (λe q=>e=.normal/\aN PP E.plain TT (Vj N) (YE x default) q) (by kernel_rfl) (.refl _) (aca N x default) Sq (λe s' q' h1 h2 h3=>?_) _ _ hR0) λe a1 w1 he=>?_)
 ·cases e with
  |normal=>cases h3;exact ⟨rfl,h1⟩
  |exit id=>cases h3
  |ret=>cases h3
 ·cases e with
  |normal=>obtain⟨q1,RD,_,Gx⟩:=he;refine acf RD Gx ?_ Gx.df hr;obtain⟨I,be,RD⟩:=RD;have:=RD.defers;rw[Gx.df]at this;exact this.of_nil|exit id=>obtain ⟨q1,RD,h,_⟩:=he;cases h
  |goto l=>obtain ⟨q1,RD,h,_⟩:=he;cases h
  |ret=>obtain ⟨q1,RD,h,_⟩:=he;cases h
  |panic ch=>obtain ⟨x,v,s,I,be,_,h,_⟩:=he;exact h.elim|outgrown=>exact he.elim)
end Go.Proofs.Mo
