import Derived.Test.YticakdhfjeljkaaGreatDoorZ17
set_option linter.all false
set_option maxRecDepth 20000
open Option renaming some->O,none->Y
open Bool renaming true->W,false->F
open Go.Proofs.Tryz
noncomputable section
namespace Go.Proofs.Mo
open Go
theorem ach(x:ag)(w:af):(Instr.typeAssert (Value.iface 243 x) 20 243 W).run Tryz.prog w=.ok (.tuple #[x,.bool W]) w:=ap
theorem W3(p:bY)(w:af):
  CallsD Tryz.prog 149 #[.pointer (O p)] .returning w λe u' w'=>e=.returned (.tuple #[])/\u'=.returning/\w'=w:=by
 refine callsD_of_wpS Tryz.func149 rfl λa cs b=>?_;apply wpS_seq;apply wpS_region;simp[wpOpsS,go_sem,recoverD,b,Tryz.ntmps149,Exit.thenS];apply wpS_seq;apply wpS_region;simp[wpOpsS,go_sem,Exit.thenS];refine wpS_cond (t:=F) (by simp[Act.eval,Array.replicate]) ?_;simp only[jo,cA];refine wpS_of_wp (wp_skip ?_);cases a;simp_all[bodyPostS,results,Tryz.results149]
theorem O2{f:an}{B:Nat}{g h i j:ag}{a b c d:Int}{e:af}(l:e.heap[B]?=O (.cells #[g,h,i,j] f (0,0))):(Instr.storeAt 58 (.pointer (O ⟨B,0,Y⟩)) (.agg #[.int .i64 a,.int .i64 b,.int .i64 c,.int .i64 d])).run Tryz.prog e=.ok () (e.setRow B #[.int .i64 a,.int .i64 b,.int .i64 c,.int .i64 d]):=by have m:Tryz.prog.cellsOf 58=4:=ap;have:=Ev.jJ (P:=Tryz.prog) (t:=58) (k:=0) (v:=.agg #[.int .i64 a,.int .i64 b,.int .i64 c,.int .i64 d]) l (by rw[m];rfl) (by grind) (by simp[Value.cells,Value.oneCell']) (by simp[Value.cells]);simpa[Instr.storeAt,Instr.sureAddr,Value.cells,Ev.bh]using this
theorem KF{P:ai}{ops:Array aC}{i:Nat}{o:aC}{rest:Z Nat}{R:Exit->Act->af->Prop}{a:Act}{w w':af}(b:ops[i]?=O o)(c:o.guard=Y)(d:(execOp a.eval o).run P w=.ok .skip w')(h:wpOps P ops R rest (a.put o.dst undef) w'):wpOps P ops R (i::rest) a w:=by simp only[wpOps,b,Region.wanted,c,cm];exact .inl (Ev.kp d h)
theorem TW(h:an)(B:Nat)(i j l m:ag)(a b c d:Int)(n:Z PanicEntry)(w:af)(p:w.heap[B]?=O (.cells #[i,j,l,m] h (0,0))):
  CallsD Tryz.prog 149 #[.pointer (O ⟨B,0,Y⟩)] (.panicking ({v:=.iface 243 (.agg #[.int .i64 a,.int .i64 b,.int .i64 c,.int .i64 d]),recovered:=F}::n)) w λe u' w'=>e=.returned (.tuple #[])/\u'=.panicking ({v:=.iface 243 (.agg #[.int .i64 a,.int .i64 b,.int .i64 c,.int .i64 d]),recovered:=W}::n)/\w'.os=w.os/\w'.tape=w.tape/\w'.output=w.output/\w.heap.size<=w'.heap.size/\(∀k,k<w.heap.size->k≠B->w'.heap[k]?=w.heap[k]?)/\w'.heap[B]?=O (.cells #[.int .i64 a,.int .i64 b,.int .i64 c,.int .i64 d] h (0,0)):=by
 have u:B<w.heap.size:=(rr.1 p).1;have x:∀o:Obj,(w.alloc o).heap[B]?=O (.cells #[i,j,l,m] h (0,0)):=λo=>by
  rw[<-p];show(w.heap.push o)[B]?=_
  grind
 refine callsD_of_wpS Tryz.func149 rfl λy cs hu=>?_;apply wpS_seq;apply wpS_region;simp[wpOpsS,go_sem,recoverD,hu,Tryz.ntmps149,Exit.thenS];apply wpS_seq;apply wpS_region;simp[wpOpsS,go_sem,Exit.thenS];refine wpS_cond (t:=W) (by simp[Act.eval,Array.replicate]) ?_;simp only[cm];apply wpS_seq;apply wpS_region;have r:=ach
 set_option maxRecDepth 4000 in
 simp[wpOpsS,go_sem,Exit.thenS,r];apply wpS_seq;apply wpS_seq;apply wpS_region;simp[wpOpsS,go_sem,Exit.thenS];refine wpS_cond (t:=F) (by simp[Act.eval,Act.put,go_sem]) ?_;simp only[jo,cA];refine wpS_of_wp (wp_skip ?_);simp only[Exit.thenS];generalize g:w.alloc (.cells #[.int .i64 a,.int .i64 b,.int .i64 c,.int .i64 d] 243)=f;have q:f.heap[B]?=O (.cells #[i,j,l,m] h (0,0)):=by grind
 have z:f.heap[w.heap.size]?=O (.cells #[.int .i64 a,.int .i64 b,.int .i64 c,.int .i64 d] 243 (0,0)):=by rw[<-g];show(w.heap.push _)[w.heap.size]?=_;simp
 refine wpS_of_wp (oh ?_);show wpOps Tryz.prog _ _ [0,1,2] _ _;refine X.jC (w':=f) (v:=.pointer (O ⟨w.heap.size,0,Y⟩)) rfl rfl (by simp[Act.eval,Act.put,go_sem]) ?_;refine X.jC (w':=f) (v:=.agg #[.int .i64 a,.int .i64 b,.int .i64 c,.int .i64 d]) rfl rfl (by simp[Act.eval,Act.put,go_sem,<-g]) ?_;refine KF (w':=f.setRow B #[.int .i64 a,.int .i64 b,.int .i64 c,.int .i64 d]) rfl rfl (by have:=O2 (a:=a) (b:=b) (c:=c) (d:=d) q;simp[Act.eval,Act.put,execOp,this]) ?_;have hsz:f.heap.size=w.heap.size+1:=by rw[<-g,World.size_alloc]
 refine⟨rfl,_,rfl,.tuple #[],by simp[results,Tryz.results149,go_sem],rfl,rfl,?_,?_,?_,?_,λk A s=>?_,?_⟩
 .rw[<-g];rfl
 .rw[<-g];rfl
 .rw[<-g];rfl
 simp_all
 .rw[og f B k _ s,<-g];show(w.heap.push _)[k]?=_
  grind
 .exact pA f B _ _ _ _ q
end Go.Proofs.Mo
namespace Go.Proofs.Mo
open Go Go.Ev Go.X
noncomputable def jd:bT:=f66.body.getD .skip
noncomputable abbrev TX (N:Nat):gy U:=XB N (Yr N)
noncomputable def W4 (x:dc) (h:Hp):S U.C:=match gX (α:=S U.C) (U:=U) (XB 0 []) (λ_ _=>Y) [(1,998)] (IP jd) .leaf (yv (U:=U) [WV] x h) (λe s=>match e with|.normal=>O s|_=>Y)with
 |some s=>s|none=>yv (U:=U) [WV] x h
theorem aam(N:Nat)(x:dc)(h:Hp):gX (α:=S U.C) (U:=U) (TX N) (λ_ _=>Y) [(1,998)] (IP jd) .leaf (yv (U:=U) [WV] x h) (λe s=>match e with|.normal=>O s|_=>Y)=O (W4 x h):=ap
theorem O3(x:dc)(h:Hp):(W4 x h).box 2=O (.cells aah [.val aI (0:Int),.val aI (0:Int),.val aI (0:Int),.val aI (0:Int)]):=ap
theorem aan(x:dc)(h:Hp):(W4 x h).bG 2=.dT 2 0:=ap
theorem aao(x:dc)(h:Hp):((W4 x h).drop 2).pl F=W:=ap
noncomputable def t63 (x:dc) (h:Hp):S U.C:=(((W4 x h).drop 2).put (O 3) .none).put (O 2) (.it 0)
def C8{C:Nat->Type}:R C->aa
 |.it 0=>W|_=>F
noncomputable def k63 (s:S U.C):V (Except eh ab):=bif C8 (s.bG 2)then O (Except.ok ())else Y
noncomputable def aci (p:o8 U) (s:S U.C):V (Except eh ab):=bif C8 (s.bG 2)then Ap (U:=U) (β:=ab) (O (243,Il)) p else Y
theorem acj(x:dc)(h:Hp)(k:Nat):(t63 x h).m k=F:=ap
theorem agv(N:Nat)(x:dc)(h:Hp):Dc (α:=Except eh ab) (U:=U) (TX N) aci [(1,998)] 8 (H7 (H7 jd)) (t63 x h) k63=C66 N x:=ap
theorem W5{E:cd}{w0:af}{I0:aA}{N:Nat}{x:dc}{q:St}{a:Act}{w:af}{I:aA}{be:Nat->V Nat}(c:aJ PP E.plain w0 I0 f66.ntmps q a w I be)(h:aU PP E.plain TT (TX N) (W4 x default) q):
  ∃B t,a.tmps.getD 2 undef=.pointer (O ⟨B,0,Y⟩)/\w.heap[B]?=O (.cells #[.int .i64 0,.int .i64 0,.int .i64 0,.int .i64 0] t (0,0))/\aJ PP E.plain w0 I0 f66.ntmps {q with b:=b8 q.b 2 Y} a w I be/\MG E.plain w0 w I be {q with b:=b8 q.b 2 Y} B:=by
 obtain⟨_,L,cs,s,u,v⟩:=h.cells (O3 x default);obtain⟨B,cur,t,f,hw,hsz,y⟩:=c.bD 2 _ s;have P:cs.length=4:=u.symm;have z:∀j:Nat,j<4->cur.getD j undef=.int .i64 0:=λj m=>by
  have i:([.val aI (0:Int),.val aI (0:Int),.val aI (0:Int),.val aI (0:Int)]:Z (R U.C))[j]?=O (.val aI (0:Int)):=by grind
  have k:cs[j]?=O (cs[j]'M):=cX _;have A:=v j _ _ i k;have n:=y j _ k;have C:cs[j]'M=.val (.fl (.int .i64 0)):=by exact Tt A
  rw[C]at n;exact bV n
 have D:cur=#[.int .i64 0,.int .i64 0,.int .i64 0,.int .i64 0]:=by
  apply Gw;simp_all
  .intro j i k;have:=z j M;simp only[my,Rn i,gh]at this;rw[this];have:j<4:=M;match j,this with
   |0,_=>rfl|1,_=>rfl
   |2,_=>rfl|3,_=>rfl
 subst D;have o:=h.ct 2;rw[aan]at o;have G:=jN h o (O3 x default);have g:=c.ct 2 b9;rw[G]at g;obtain⟨_,g⟩:=g;obtain⟨B',p,hv⟩:=g rfl (by grind);rw[f]at p;cases p;obtain⟨o1,o2,o3,H⟩:=c.bR 2 B (by grind) f;refine⟨B,t,by grind,hw,c.drop 2,⟨cd.fU o1,o2,o3,H,λd J l=>?_,λj m l=>?_⟩⟩
 .have r:d≠2:=λe=>by simp_all
  have K:q.b d≠Y:=by simpa[aO _ _ r]using J
  exact r (c.inj d 2 B K (by grind) l f)
 .exact (c.aZ.bR j B m l).2.2.2.2 ⟨2,by grind,f⟩
noncomputable def xa:Array aC:=match IP (H7 jd)with|.region _ ops _=>ops|_=>#[]
noncomputable def O4:aC:=xa.getD 0 default
noncomputable def KG:aC:=xa.getD 1 default
theorem W6:IP (H7 jd)=.region 1 xa F:=ap
theorem TY:O4.op=.makeFunc (.func 149) #[] #[.tmp 2]:=ap
theorem TZ:KG.op=.defer {callee:=.value (.tmp 3),args:=#[],argTypes:=#[]}:=ap
noncomputable def xb:Array aC:=match IP (eA 8 (H7 (H7 jd)))with|.region _ ops _=>ops|_=>#[]
noncomputable def O5:aC:=xb.getD 0 default
noncomputable def T6:aC:=xb.getD 1 default
theorem aap:eA 8 (H7 (H7 jd))=.seq (.region 10 xb F) .ret:=ap
theorem T7:O5.op=.build 58 #[]:=ap
theorem T8:T6.op=.store 58 (.tmp 2) (.tmp 37):=ap
theorem W7{a:Act}{w:af}{p:bY}{Q:Exit->Act->af->Prop}(j:a.tmps.getD 2 undef=.pointer (O p))(hsz:a.tmps.size=f66.ntmps)
  (h:∀d:Deferred,d.target=.fn (.func 149) #[.pointer (O p)]->d.args=#[]->Q .normal {(a.put (O 3) (.func (.func 149) #[] #[.pointer (O p)]))with defers:=d::a.defers} w):(IP (H7 jd)).wp PP Q a w:=by
 have c:a.tmps[2]?.getD undef=.pointer (O p):=by simp_all
 have e:3<a.tmps.size:=by simp_all
 rw[W6];refine oh ?_;have f:List.range xa.size=[0,1]:=ap;rw[f];refine X.jC (w':=w) (o:=O4) (v:=.func (.func 149) #[] #[.pointer (O p)]) ap ap ?_ ?_
 .simp[Act.eval,execOp,TY,c,go_sem,Instr.makeFunc]
 .have b:O4.dst=O 3:=ap;have g:KG.dst=Y:=ap;have e2:xa[1]?=O KG:=ap;have g2:KG.guard=Y:=ap;simp only[wpOps,e2,Region.wanted,g2,cm];refine .inl ?_;unfold Oper.wp;have i:(execOp (a.put O4.dst (.func (.func 149) #[] #[.pointer (O p)])).eval KG).run PP w=.ok (.defer {target:=.fn (.func 149) #[.pointer (O p)],args:=#[]}) w:=by simp[Act.eval,Act.put,execOp,TZ,b,e,go_sem,resolve]
  rw[i,Oper.upon_defer,g,b];exact h _ rfl rfl
theorem W8(w:af)(ρ:ah->ag):(execOp ρ O5).run PP w=.ok (.value (.agg #[.int .i64 0,.int .i64 0,.int .i64 0,.int .i64 0])) w:=by simp[execOp,T7];kernel_rfl
theorem KH{w:af}{B:Nat}{cur:Array ag}{t:an}(h:w.heap[B]?=O (.cells cur t (0,0))):w.setRow B cur=w:=by
 have a:B<w.heap.size:=(rr.1 h).1;have hv:w.heap[B]=.cells cur t (0,0):=(rr.1 h).2;have b:∀f:Obj->Obj,f (.cells cur t (0,0))=.cells cur t (0,0)->w.heap.modify B f=w.heap:=λf c=>by grind
 unfold World.setRow;simp_all
abbrev O6:Array ag:=#[.int .i64 0,.int .i64 0,.int .i64 0,.int .i64 0]
theorem ack{a:Act}{w:af}{B:Nat}{t:an}{Q:Exit->Act->af->Prop}(l:a.tmps.getD 2 undef=.pointer (O ⟨B,0,Y⟩))(hsz:a.tmps.size=f66.ntmps)(e:w.heap[B]?=O (.cells O6 t (0,0)))
  (h:Q .ret (a.put (O 37) (.agg O6)) w):(eA 8 (H7 (H7 jd))).wp PP Q a w:=by
 have f:a.tmps[2]?.getD undef=.pointer (O ⟨B,0,Y⟩):=by simp_all
 have g:37<a.tmps.size:=by simp_all
 rw[aap];refine kT (oh ?_);have i:List.range xb.size=[0,1]:=ap;have j:O5.dst=O 37:=ap;have k:T6.dst=Y:=ap;rw[i];refine X.jC (w':=w) (o:=O5) (v:=.agg O6) ap ap (W8 _ _) ?_;rw[j];refine KF (o:=T6) (w':=w) ap ap ?_ ?_
 .have:=O2 (a:=0) (b:=0) (c:=0) (d:=0) e;rw[KH e]at this;simp[Act.eval,Act.put,execOp,T8,f,g,this]
 .rw[k];exact wp_ret h
theorem Yu{a:Array ag}{w:af}{B:Nat}{t:an}{b c d e:ag}(k:a.getD 2 undef=.pointer (O ⟨B,0,Y⟩))(l:w.heap[B]?=O (.cells #[b,c,d,e] t (0,0))):
  (results f66 a).run PP w=.ok (.agg #[b,c,d,e]) w:=by
 have m:a[2]?.getD undef=.pointer (O ⟨B,0,Y⟩):=by simp_all
 have f:mZ PP 58=O W:=ap;have g:PP.cellsOf 58=4:=ap;have h:=rG (P:=PP) (w:=w) (t:=58) (p:=⟨B,0,Y⟩) (vs:=[b,c,d,e]) (λj v hv=>by grind [Addr.add,World.cell?]) f (by grind) (by grind);rw[g]at h;have i:f66.results=#[.cell 2 58]:=by simp_all
 simp[results,i]
 grind [asAddr,cW,cL]
theorem T9{E:cd}{w0 w:af}{I0 I:aA}{n:Nat}{q:St}{a:Act}{be:Nat->V Nat}(d:aJ PP E.plain w0 I0 n q a w I be)(y:h9):
  Eo PP E.plain w0 I0 w tp mi (qa (U:=U) TT [.v aah] Y y) (.returned (.agg #[.int .i64 y.Yq,.int .i64 y.Ic,.int .i64 y.part,.int .i64 y.ka])):=by
 refine⟨_,I,λ_=>Y,rfl,d.since,?_,λj e B h=>(by grind),λj B h=>(by grind),mX.none λ_=>rfl⟩;show cy w I _ (.agg [.fl (.int .i64 y.Yq),.fl (.int .i64 y.Ic),.fl (.int .i64 y.part),.fl (.int .i64 y.ka)]);refine .agg _ _ rfl λj c b=>?_;match j,b with
 |0,b=>simp at b;subst b;exact .fl _ rfl|1,b=>simp at b;subst b;exact .fl _ rfl
 |2,b=>simp at b;subst b;exact .fl _ rfl|3,b=>simp at b;subst b;exact .fl _ rfl
 |j+4,b=>grind
theorem Yv{E:cd}(a:oN E)(N:Nat):bJ PP E TT (TX N):=sh SS.zM SS.ak a.ro (aag N E a)
theorem Yw{w:af}{I:aA}{b:Z Deferred}{B:Nat}(h:pC w I b [.fn 149 [.fl (.pointer (O ⟨B,0,Y⟩))]]):b=[{target:=.fn (.func 149) #[.pointer (O ⟨B,0,Y⟩)],args:=#[]}]:=by
 obtain⟨c,a⟩:=h;match b,c,a with
 |[d],_,a=>
  obtain⟨f,vs,caps,q1,k,l,e⟩:=a 0 d _ rfl rfl;cases q1;have m:vs=#[.pointer (O ⟨B,0,Y⟩)]:=by
   cases e with
   |fn f vs caps g i=>
    have h0:=bV (i 0 _ rfl);have n:vs.size=1:=g;apply Gw
    grind
    .intro j c a;have:j=0:=M;subst this;simpa[my,c]using h0
  obtain⟨t,o⟩:=d
  grind
theorem FZ{B:Nat}{w:af}:(invoke (.fn (.func 149) #[.pointer (O ⟨B,0,Y⟩)]) #[]).run PP w=.ok (.enter 149 #[.pointer (O ⟨B,0,Y⟩)]) w:=ap
theorem Ua{w:af}{I:aA}{v:ag}{e:eh}(h:cy w I v (.mR 243 (enc TT Il e))):v=.iface 243 (.agg #[.int .i64 e.f.Yq,.int .i64 e.f.Ic,.int .i64 e.f.part,.int .i64 e.f.ka]):=by
 cases h with
 |mR t v x a=>
  have b:enc TT Il e=.agg [.fl (.int .i64 e.f.Yq),.fl (.int .i64 e.f.Ic),.fl (.int .i64 e.f.part),.fl (.int .i64 e.f.ka)]:=rfl;rw[b]at a;cases a with
  |agg vs cs c a=>
   have i:vs.size=4:=c;have h0:=bV (a 0 _ rfl);have d:=bV (a 1 _ rfl);have f:=bV (a 2 _ rfl);have g:=bV (a 3 _ rfl);congr 2;apply Gw;simp_all
   .intro j k l;simp only[my]at h0 d f g
    grind
theorem aaq{E:cd}(h0:oN E){w0:af}{I0:aA}{N:Nat}{x:dc}{y:h9}{q:St}{a:Act}{w:af}(L:ko PP E.plain w0 I0 f66.ntmps q a w)(a0:aU PP E.plain TT (TX N) (W4 x default) q)(H0:a.defers=[])(J0:q.df=[])(H:Bd N x=O y):
  (Code.seq (IP (H7 jd)) (H7 (H7 jd))).wp PP (bodyPostD PP f66 λe w=>Eo PP E.plain w0 I0 w tp mi (qa (U:=U) TT [.v aah] Y y) e) a w:=by
 obtain⟨I,be,L⟩:=L;obtain⟨B,b0,i0,hw,j0,c0⟩:=W5 L a0;have d0:=c0.new;refine kT (W7 i0 L.size λd k0 l0=>?_);let df:Z AV:=[.fn 149 [.fl (.pointer (O ⟨B,0,Y⟩))]]
 let z:cd:=E.plain.rv B (.cells O6 b0 (0,0)) df;have m0:aJ PP z w0 I0 f66.ntmps {q with r:=b8 (b8 q.r 3 .none) 2 (.val (.fl (.pointer (O ⟨B,0,Y⟩)))),b:=b8 q.b 2 Y,df:=df} {(a.put (O 3) (.func (.func 149) #[] #[.pointer (O ⟨B,0,Y⟩)]))with defers:=d::a.defers} w I be:=by
  have m:=aJ.rv (df:=df) j0 c0 hw;have A:=m.put (O 3) (v:=.func (.func 149) #[] #[.pointer (O ⟨B,0,Y⟩)]) (r:=.none) trivial;have C:=A.deferred k0 l0 (f:=149) (caps:=[.fl (.pointer (O ⟨B,0,Y⟩))]) (.fn _ _ _ rfl λj c P=>by
   match j,P with
   |0,P=>simp at P;subst P;exact .fl _ rfl)
  have J:=C.Ke 2 (u:=.val (.fl (.pointer (O ⟨B,0,Y⟩)))) (λ_=>by
   have:(a.put (O 3) (.func (.func 149) #[] #[.pointer (O ⟨B,0,Y⟩)])).tmps.getD 2 undef=.pointer (O ⟨B,0,Y⟩):=by simp only[Act.put,my];simp_all
   simp only[this];exact .fl _ rfl)
  have D:(.fn 149 [.fl (.pointer (O ⟨B,0,Y⟩))]::q.df:Z AV)=df:=by grind
  simp only[St.put,D]at J;exact J
 have n0:aU PP z TT (TX N) (t63 x default) {q with r:=b8 (b8 q.r 3 .none) 2 (.val (.fl (.pointer (O ⟨B,0,Y⟩)))),b:=b8 q.b 2 Y,df:=df}:=by have m:=OQ (E':=z) (X':=TX N) rfl (a0.drop 2) (aao x default);have A:=m.put (O 3) (r:=.none) (u:=.none) (.none _);exact A.put (O 2) (r:=(.it 0)) (u:=.val (.fl (.pointer (O ⟨z.it 0,0,Y⟩)))) (.it 0)
 unfold Bd at H;obtain⟨r,o0,H⟩:=bind_some H;have e0:∀(s':S U.C)(i:St),aU PP z TT (TX N) s' i->C8 (s'.bG 2)=W->i.r 2=.val (.fl (.pointer (O ⟨B,0,Y⟩))):=λs' i m G=>by
  have:=m.ct 2;unfold C8 at G;split at G
  .rename_i e;rw[e]at this;generalize i.r 2=u at this;cases this with
   |it=>rfl
  grind
 have p0:=(agv N x default).trans o0;have q0:bJ PP z TT (TX N):=Yv (E:=z) ⟨λ_=>rfl,λw h=>h0.laid w (show E.hS w/\_ from h).1⟩ N;refine pB (yr (E:=z) (sB:=t63 x default) SS.L SS.mo q0 (λ⟨k,Q⟩=>by rw[acj]at Q;grind) (Zloc:=λav i=>(∃e:eh,r=.error e/\av=.mR 243 (enc TT Il e))/\i.df=df/\i.r 2=.val (.fl (.pointer (O ⟨B,0,Y⟩)))) (λav i r0=>?_) 8 (H7 (H7 jd)) (t63 x default) k63 _ (λe i=>e=.ret/\r=.ok ()/\i.df=df/\i.r 2=.val (.fl (.pointer (O ⟨B,0,Y⟩)))) ap (.refl _) p0 n0 (λs' i m A C=>?_) _ w ⟨I,be,m0⟩) λe a' w' n=>?_
 .obtain ⟨p,s',g1,g2,g3,g4,rfl⟩:=r0;simp only[aci,Ap]at g3;obtain⟨G,g3⟩:=az g3;obtain⟨D,g3⟩:=az g3;have D:=cC D;split at g3
  .rename_i e n;obtain⟨f0,rfl⟩:=bM n;obtain⟨K0,L0,s0⟩:=p;simp only at D f0 n;subst D f0;cases g3;exact⟨⟨s0,rfl,rfl⟩,g1.df,e0 _ _ g1 G⟩
  grind
 .simp only[k63]at C;obtain⟨G,C⟩:=az C;cases C;have g0:=e0 _ _ m G;intro a' w' g;obtain⟨I',R,g⟩:=g;have J:=g.ct 2 b9;rw[g0]at J;have t0:=bV J;refine ack t0 g.size g.since.hS.2.2 ?_;exact⟨i.put (O 37) .none,⟨I',R,g.put (O 37) trivial⟩,rfl,rfl,m.df,by simpa[St.put,b8]using g0⟩
 .cases e with
  |normal=>obtain ⟨s,_,h,_⟩:=n;grind|exit id=>obtain ⟨s,_,h,_⟩:=n;grind
  |goto l=>obtain ⟨s,_,h,_⟩:=n;grind|outgrown=>exact n.elim
  |ret=>obtain⟨s,⟨I',R,g⟩,_,rfl,m,A⟩:=n;obtain⟨g1,g2,g3⟩:=g.Tj d0;have o:=g.defers;rw[m]at o;have o:=Yw o;have K:=g.ct 2 b9;rw[A]at K;have T:=bV K;cases H;show Leaves PP _ _ _ a'.defers _ _;rw[o];refine xA aH FZ ((W3 _ _).mono λe u' u0 X=>?_);obtain⟨rfl,rfl,rfl⟩:=X;exact⟨_,Yu T g3,T9 g1 (h9.mk 0 0 0 0)⟩
  |panic N0=>
   obtain⟨av,v,s,I',R,rfl,⟨⟨e,rfl,rfl⟩,m,A⟩,g,x0⟩:=n;have K:=g.ct 2 b9;rw[A]at K;have T:=bV K;obtain⟨g1,g2,g3⟩:=g.Tj d0;have o:=g.defers;rw[m]at o;have o:=Yw o;have hv:=Ua x0;subst hv;cases H;show Leaves PP _ _ _ a'.defers _ _;rw[o];refine xA aH FZ ((TW b0 B _ _ _ _ _ _ _ _ _ _ g3).mono λe' u' u0 X=>?_);obtain⟨rfl,rfl,y0,A0,B0,C0,D0,E0⟩:=X;have g4:=g1.Yo g2 y0 A0 B0 C0 (λk Q G0=>D0 k G0 Q) λB' cur t P0 Q0=>by grind
   exact⟨_,Yu T E0,T9 g4 e.f⟩
theorem G66(N:Nat):Holds 66 (K66 N):=λE d=>gI ap (by
 intro x m r o t;obtain⟨u,w⟩:=MP (P:=PP) (E:=E) (X:=TX N) o (default:Hp);have f:PP.funcs[66]?=O f66:=by simp_all
 have i:f66.body=O jd:=ap;have j:=Yv (E:=E.plain) d.plain N;have y:jd=.seq (IP jd) (.seq (IP (H7 jd)) (H7 (H7 jd))):=ap;refine⟨Go.Proofs.enters_of f ap i,λw0 I0 vs z A B=>calls_of_wp_defers f i ?_⟩;have C:=Qm (E:=E) (P:=PP) (n:=f66.ntmps) z A B (by rw[u];decide);rw[y];refine kT (pB (kk (out:=W4 x default) (sB:=yv (U:=U) [WV] x (default:Hp)) (kx:=λ_ _=>Y) (esc:=[(1,998)]) (Zloc:=λ_ _=>False) SS.L j (λ⟨k,D⟩=>by cases D) (kl SS.L SS.mo j) (λav G H=>by obtain ⟨p,s',_,_,g,_⟩:=H;grind) (IP jd) .leaf _ _ (entry m) (λe q=>e=.normal/\aU PP E.plain TT (TX N) (W4 x default) q) ap (.refl _) (aam N x default) w (λe s' G J L K=>?_) _ _ C) λe Q R b=>?_)
 .cases e with
  |normal=>cases K;exact ⟨rfl,J⟩
  |exit id=>grind|ret=>grind
 .cases e with
  |normal=>obtain⟨q1,a,_,c⟩:=b;refine aaq d a c ?_ c.df t;obtain⟨I,be,a⟩:=a;have:=a.defers;rw[c.df]at this;exact this.GH|exit id=>obtain ⟨q1,a,h,_⟩:=b;grind|goto l=>obtain ⟨q1,a,h,_⟩:=b;grind
  |ret=>obtain ⟨q1,a,h,_⟩:=b;grind|panic S=>obtain ⟨x,v,s,I,be,_,h,_⟩:=b;grind
  |outgrown=>exact b.elim)
end Go.Proofs.Mo
