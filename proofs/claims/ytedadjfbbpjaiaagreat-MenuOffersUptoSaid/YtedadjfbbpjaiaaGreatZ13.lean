import Derived.Test.YtedadjfbbpjaiaaGreatZ12
set_option linter.all false
namespace Go.X
open Go Go.Ev
def RH:Code->Code
 |.seq a _=>a|c=>c
def E9:Code->Code
 |.seq _ b=>b|c=>c
section
variable{P:Program}{E:Env}{U:cm}{T:da U.C}{X:Ctx U}
theorem U2{bx:List (Nat×Nat×B U.C)}{g:Nat->Nat}{tick:Nat}{k:IntKind}{n:Int}{q:br}(h:bn P E T bx g tick (.val (.int k) n) q):q=.val (.fl (.int k n)):=by
 cases h with
 |val t x q av hq h=>rw[gm h rfl]at hq;exact dp hq
def Ab{U:cm}(ps:List Ty)(x:HL U.C ps)(h:U.C 0):S U.C:={r:=oA ps 0 x,b:=[],tick:=1,h:=h,m:=λ_=>false}
theorem NP{ps:List Ty}{x:HL U.C ps}{aX:List AV}(dg:fA P E T ps x aX)(h0:U.C 0):aX.length=ps.length/\aN P E.plain T X (Ab ps x h0) (entry aX):=by
 have ha:=yh (bx:=[]) (g:=λ_=>0) (tick:=1) ps 0 x aX (k9 pZ dg);refine⟨ha.1,λt=>?_,λd=>trivial,λt st y hy=>?_,(λd st y hy=>by cases hy),(λk _ hm=>by cases hm),rfl⟩
 ·have:=ha.2.2 t;rw[S.look_eq];rw[ap (eC _),rA]at this;simp only[Ab];cases hl:ao (oA ps 0 x) t with
  |none=>rw[hl]at this;exact this|some e=>rw[hl]at this;exact this
 ·have:=ha.2.1 t st y hy;subst this;exact Nat.zero_lt_one
theorem RI{args:List AV}{vs:Array Value}{w0:World}{I0:Cells}{n:Nat}(hinv:E.inv w0)(hI:∀p,I0 p->p.block<w0.heap.size/\¬E.bN w0 p.block)(dg:mm w0 I0 vs.toList args)(hn:args.length<=n):
  Rel P E.plain w0 I0 n (entry args) {tmps:=vs++Array.replicate (n-vs.size) undef,defers:=[]} w0:=by
 have AO:vs.size=args.length:=by simpa using dg.1
 refine⟨I0,λ_=>none,?_⟩;exact⟨er.refl (E:=E.plain) hinv hI,by simp;omega,.nil,λt ht=>vL dg t,λd x hx=>by simp[entry]at hx,λd d' B hd=>by simp[entry]at hd,λd B hd=>by simp[entry]at hd,λd B h=>(by cases h),nQ.none λ_=>rfl⟩
end
end Go.X
namespace Go.Ev
open Go
def tU(B:Nat)(f:FuncId)(caps:List AV):Nat->AV
 |0=>.fl (.pointer (some ⟨B,0,none⟩))|k+1=>.ref [.fn f (caps++[tU B f caps k])]
section
variable{P:Program}{E:Env}{w0:World}{I0:Cells}{n:Nat}{s:St}{a:Act}{w w':World}{I:Cells}{be:Nat->Option Nat}
theorem aC.aim (h:aC P E w0 I0 n s a w I be) (o:Obj):aC P E w0 I0 n s a (w.alloc o) (I.plus λp=>p.block=w.heap.size) be:=by
 obtain⟨hd,jd,⟨f1,f2,f3,f4,f5⟩,jm,Sz⟩:=h.fresh (w':=w.alloc o) (o:=o) rfl rfl rfl rfl;have C7:∀d',s.g d'<s.g d'∨(s.g d'=s.g d'/\eu P (w.alloc o) (w.alloc o) be be s.b s.b d'):=λd'=>.inr ⟨rfl,λh=>⟨h,rfl⟩,λ_ _ _ h=>h⟩;refine⟨hd.since.step (w':=w.alloc o) rfl rfl rfl (aP _) (λ_=>False) (λ_ _ _=>rfl) (λ_ hk=>hk.elim) (Shape.refl _) (λ_ h=>.inl h) rfl ?_,hd.size,hd.defers.mono (.plus _ _ _),
  λt ht=>(hd.cr t ht).dN (.plus _ _ _) C7,λd' x hx=>(hd.boxes d' x hx).dN (.plus _ _ _) C7 rfl (λ_ _=>rfl),hd.inj,λd' B hn hB=>?_,hd.tie,
  hd.fY (.plus _ _ _) rfl (λ_=>False) (λ_ _ _ _ h=>h) (λ_ _ _=>rfl) (aP _) (λ_ h=>h.elim) (λp hp=>hp.imp id λe i hi ly=>Sz _ rfl i hi (by rw[ly,e])) (λ_ h=>.inl h)⟩
 ·rintro p (hp|hp)
  ·exact .inl hp
  ·exact .inr ⟨by rw[hp];exact f1,by rw[hp];exact f2,by rw[hp];exact f4⟩
 ·obtain ⟨q1,q2,q3,q4⟩:=hd.own d' B hn hB;refine⟨q1,q2,λp hp e=>?_,q4⟩;rcases hp with hp|hp
  ·exact q3 p hp e
  ·exact f5 d' hn (by rw[hB,<-e,hp])
theorem Lq{B:Nat}{f:FuncId}{caps:List AV}{vs:Array Value}{e:TypeId}(hw:w.heap[B]?=some (.cells #[.func (.func f) #[] vs] e (0,0)))(hI:∀p,p.block=B->I p)(hl:vs.size=caps.length+1)
  (hr:∀(j:Nat)(c:AV),caps[j]?=some c->cj w I (vs.getD j undef) c) (Lg:vs.getD caps.length undef=.pointer (some ⟨B,0,none⟩)):∀k,cj w I (.pointer (some ⟨B,0,none⟩)) (tU B f caps k)
 |0=>.fl _ rfl|k+1=>by
  have ih:=Lq hw hI hl hr Lg k;refine .ref ⟨B,0,none⟩ _ (λ_=>.func (.func f) #[] vs) (λj c hj=>?_) (λj c hj=>hI _ ?_) (λj c hj=>?_)
  ·match j,hj with
   |0,_=>simp[World.cell?,Addr.add,hw]|j+1,hj=>simp at hj
  ·match j,hj with
   |0,_=>simp[Addr.add]|j+1,hj=>simp at hj
  ·match j,hj with
   |0,hj=>
    simp at hj;subst hj;refine .fn f vs _ (by simp[hl]) λj c hc=>?_;by_cases h1:j<caps.length
    ·rw[kf h1]at hc;exact hr j c hc
    ·rw[lF (by omega)]at hc;have h2:j=caps.length:=by have:=(aV.1 hc).1;simp at this;omega
     subst h2;simp at hc;subst hc;rw[Lg];exact ih
   |j+1,hj=>simp at hj
theorem GZ(w:World)(o:Obj):(w.alloc o).heap[w.heap.size]?=some o:=by show(w.heap.push o)[w.heap.size]?=_;simp
theorem IX(w:World)(cs qy:Array Value)(e:TypeId):(w.alloc (.cells cs e (0,0))).setRow w.heap.size qy=w.alloc (.cells qy e (0,0)):=by
 have key:∀f:Obj->Obj,f (.cells cs e (0,0))=.cells qy e (0,0)->(w.heap.push (.cells cs e (0,0))).modify w.heap.size f=w.heap.push (.cells qy e (0,0)):=λf hf=>by
  apply CL
  ·simp
  ·intro j h1 h2;rw[Array.getElem_modify];simp at h1;by_cases hj:w.heap.size=j
   ·subst hj;simp[hf]
   ·simp[hj,Array.getElem_push,show j<w.heap.size by omega]
 unfold World.setRow World.alloc;simp only;rw[key];rfl
theorem U3{Q:bZ->St->Prop}{Z:AV->St->Prop}{m d f i1 i2:Nat}{e:TypeId}{o1 o2 o3:Oper}{ts:List Nat}{aX:List AV}{rest:Code}{zi:TypeInfo}{z:Value}
  (hz:P.info? e=some zi) (AE:zi.zero=some z) (J4:z.cells=#[z]) (hc:P.cellsOf e=1)
  (Sd:o1.op=.alloc e) (sF:o1.dst=some m) (Lr:o1.guard=none) (Zr:o2.op=.makeFunc (.func f) #[] (ts.map Operand.tmp++[Operand.tmp m]).toArray) (xh:o2.dst=some d) (hg2:o2.guard=none)
  (Md:o3.op=.store e (.tmp m) (.tmp d)) (hd3:o3.dst=none) (Sw:o3.guard=none) (hm:m<n) (hd:d<n) (Rn:d≠m) (hl:aX.length=ts.length)
  (gy:∀(j t:Nat),ts[j]?=some t->t<n/\t≠m/\∃av,aX[j]?=some av/\s.r t=.val av)
  (N:Nat) (h:∀B:Nat,lz P E w0 I0 n rest Q Z ((s.put (some m) (.val (tU B f aX N))).put (some d) .none)):lz P E w0 I0 n (.seq (.region i1 #[o1] false) (.seq (.region i2 #[o2,o3] false) rest)) Q Z s:=by
 rintro a w ⟨I,be,hR⟩;have dh:=hR.size;refine wp_seq (qd ?_);have aeP:(execOp a.eval o1).run P w=.ok (.value (.pointer (some ⟨w.heap.size,0,none⟩))) (w.alloc (.cells #[z] e)):=by simp[execOp,Sd,Instr.alloc,zeroValue,typeInfo,hz,AE,newVar,newRow,J4]
 refine X.kn (o:=o1) rfl Lr aeP ?_;rw[sF];show(Code.seq _ _).wp P _ _ _;refine wp_seq (qd ?_);have oF:m<a.tmps.size:=by rw[dh];exact hm
 let pB:Value:=.pointer (some ⟨w.heap.size,0,none⟩);let vs:Array Value:=(ts.map λt=>a.tmps.getD t undef).toArray.push pB;have aeQ:(execOp (a.put (some m) pB).eval o2).run P (w.alloc (.cells #[z] e))=.ok (.value (.func (.func f) #[] vs)) (w.alloc (.cells #[z] e)):=by
  have:(ts.map Operand.tmp++[Operand.tmp m]).toArray.map (a.put (some m) pB).eval=vs:=by
   apply Array.ext';simp only[Array.toList_map,nN,xq,eD,vB,vs,Array.toList_push];congr 1
   ·refine xr λt ht=>?_;obtain⟨j,hj,rfl⟩:=fR ht;have dA:=(gy j _ (cq hj)).2.1;simp[Act.eval,Act.put,JC (c5 dA)]
   ·simp[Act.eval,Act.put,oF]
  simp only[execOp,Zr];rw[this];simp[Instr.makeFunc]
 refine X.kn (o:=o2) rfl hg2 aeQ ?_;rw[xh];have fF:d<(a.put (some m) pB).tmps.size:=by simp[Act.put];rw[dh];exact hd
 have hp:((a.put (some m) pB).put (some d) (.func (.func f) #[] vs)).eval (.tmp m)=pB:=by
  have:((a.tmps.setIfInBounds m pB).setIfInBounds d (Value.func (Fn.func f) #[] vs))[m]?=some pB:=by rw[JC Rn];simp[oF]
  simp[Act.eval,Act.put,this]
 have hv:((a.put (some m) pB).put (some d) (.func (.func f) #[] vs)).eval (.tmp d)=.func (.func f) #[] vs:=by simp[Act.eval,Act.put,dh,hd]
 have mK:=jJ (P:=P) (w:=w.alloc (.cells #[z] e)) (B:=w.heap.size) (t:=e) (k:=0) (v:=.func (.func f) #[] vs) (cur:=#[z]) (GZ _ _) (by rw[hc];rfl) (by rw[hc];decide) (by simp[Value.cells,Value.oneCell']) (by simp[Value.cells]);have hw2:(w.alloc (.cells #[z] e)).setRow w.heap.size (aR [z] 0 [Value.func (.func f) #[] vs]).toArray=w.alloc (.cells #[.func (.func f) #[] vs] e):=IX _ _ _ _;have aeR:(execOp ((a.put (some m) pB).put (some d) (.func (.func f) #[] vs)).eval o3).run P (w.alloc (.cells #[z] e))=.ok .skip (w.alloc (.cells #[.func (.func f) #[] vs] e)):=by have jl:(Value.func (.func f) #[] vs).cells.toList=[.func (.func f) #[] vs]:=rfl;rw[jl,hw2]at mK;simp only[execOp,Md,hp,hv];simp[Instr.storeAt,Instr.sureAddr,pB,mK]
 have Re:∀(R:Exit->Act->World->Prop)(a2:Act)(w2 w3:World),(execOp a2.eval o3).run P w2=.ok .skip w3->R .normal (a2.put none undef) w3->wpOps P #[o2,o3] R [1] a2 w2:=λR a2 w2 w3 hr hq=>by simp only[wpOps,Region.wanted,FQ,SJ,ik,Sw,bp];refine .inl (kE hr ?_);rw[hd3];exact hq
 refine Re _ _ _ _ aeR ?_;refine h w.heap.size _ _ ⟨I.plus λp=>p.block=w.heap.size,be,?_⟩;have hk:=hR.aim (.cells #[.func (.func f) #[] vs] e);have j5:∀v r,bD P w I be s.b s.g v r->∀av,r=.val av->cj (w.alloc (.cells #[.func (.func f) #[] vs] e)) (I.plus λp=>p.block=w.heap.size) v av:=λv r hr av e=>by subst e;have hg:cH w (w.alloc (.cells #[.func (.func f) #[] vs] e)) I I:=(hR.fresh (w':=w.alloc (.cells #[.func (.func f) #[] vs] e)) rfl rfl rfl rfl).2.2.2.1;exact(cj.mono hg hr).mono (.plus _ _ _)
 refine(hk.put (some m) (v:=pB) (r:=.val (tU w.heap.size f aX N)) ?_).put (some d) (r:=.none) trivial;refine Lq (vs:=vs) (e:=e) (GZ _ _) (λp hp=>Or.inr hp) (by simp[vs,hl]) (λj c hc=>?_) (by simp[vs,hl,pB]) N;have hj:j<ts.length:=by rw[<-hl];exact (aV.1 hc).1
 obtain⟨q1,q2,av,q3,q4⟩:=gy j ts[j] (cq hj);rw[hc]at q3;cases q3;have:=j5 _ _ (hR.cr ts[j] q1) c q4;have e1:vs.getD j undef=a.tmps.getD ts[j] undef:=by simp only[vs,jI];rw[U4 (by simpa using hj)];simp
 rw[e1];exact this
end
end Go.Ev
