import Derived.MapKept
import Derived.Test.YtedadjfbbpjaiaaGreatZ3
set_option linter.all false
namespace Go.Ev
open Go Go.MapKept
variable{t kt vt e:TypeId}{i:Nat}{v:AV}{d:TypeDesc}{es:List (AV×AV)}{k:Value}{p y:Operand}{xs:List AV}
section
variable{P:Program}{E:Env}{w0:World}{I0:Cells}{n:Nat}{o:Oper}{s:St}{K:St->Prop}{a:Act}{w w':World}{I:Cells}{be:Nat->Option Nat}
def St.lay (s:St) (i:Nat) (x:Ob):St:={s with a:=bF s.a i (some x),u:=bF s.u i true}
theorem zo(P:Program){v:Value}{x:AV}(h:cj w I v x):v.cells.size=x.cells.length/\∀(j:Nat)(c:AV),x.cells[j]?=some c->cj w I (v.cells.getD j undef) c:=by have h1:=lE (P:=P) (be:=λ_=>none) (b:=λ_=>none) (g:=λ_=>0) (r:=.val x) (cs:=x.cells.map .val) h rfl (λ_ _ _ _ _ h=>by cases h) (λ_ _ _ _ h=>by cases h);refine⟨by simpa using h1.1,λj c hc=>?_⟩;have:=h1.2 j (.val c) (by simp[hc]);exact this
theorem Gg(P:Program){v:Value}{x:AV}(h:cj w I v x)(Qy:x.wf):∀u∈v.cells.toList,u.oneCell'=true:=rC (P:=P) (be:=λ_=>none) (b:=λ_=>none) (g:=λ_=>0) (r:=.val x) h Qy (λ_ _ _ _ _ h=>by cases h) (λ_ _ _ _ h=>by cases h)
theorem Db(ho:o.op=.alloc t)(hE:E.fixed=false)(hu:s.u i=false){zc:List AV}(hz:ZC P t zc)
  (hK:K ((s.lay i (.cells zc)).put o.dst (.val (.ptr i 0)))):Sound P E w0 I0 n o s K:=by
 rintro a w ⟨I,be,hR⟩ Qc;obtain⟨ti,zv,hi,AE,J4,hz3,hzl,hzr⟩:=hz;have cu:(execOp a.eval o).run P w=.ok (.value (.pointer (some ⟨w.heap.size,0,none⟩))) (w.alloc (.cells zv.cells t)):=by simp[execOp,ho,Instr.alloc,zeroValue,typeInfo,hi,AE,newVar,newRow]
 have hn:=hR.Te (w':=w.alloc (.cells zv.cells t)) hE i hu (.cells zc) (ob:=.cells zv.cells t) rfl rfl rfl rfl (λhw _=>
  ⟨zv.cells,t,hw,hzl.symm,λj c hj=>by
   have pM:j<zv.cells.size:=by have:=(aV.1 hj).1;omega
   have hv:zv.cells[j]?=some zv.cells[j]:=by simp[pM]
   have:=FU (w:=w.alloc (.cells zv.cells t)) (I:=I.lay i w.heap.size) (rq.1 J4 _ (nB hv)) (hzr j _ c hv hj);simpa[pM]using this⟩)
 refine eA cu ⟨_,⟨_,be,hn.put o.dst (r:=.val (.ptr i 0)) ?_⟩,hK⟩;exact cj.ptr i 0 w.heap.size (by simp[Cells.lay])
theorem xK(ho:o.op=.alloc t){d:Nat}(hd:o.dst=some d){zc:List br}{i:TypeInfo}{zv:Value}(hi:P.info? t=some i)(hz:i.zero=some zv)(ax:(zv.cells.all λv=>v.oneCell')=true)(hl:zc.length=zv.cells.size)
  (hzc:∀(j:Nat)(v:Value)(r:br),zv.cells[j]?=some v->zc[j]?=some r->r=cf v∨(v=.slice none 0 0/\r=.val .emp)) (hK:K (s.cT d zc)):Sound P E w0 I0 n o s K:=by
 rintro a w ⟨I,be,hR⟩ Qc;have cu:(execOp a.eval o).run P w=.ok (.value (.pointer (some ⟨w.heap.size,0,none⟩))) (w.alloc (.cells zv.cells t)):=by simp[execOp,ho,Instr.alloc,zeroValue,typeInfo,hi,hz,newVar,newRow]
 refine eA cu ⟨_,⟨I,bF be d (some w.heap.size),?_⟩,hK⟩;rw[hd];refine hR.cT (w':=w.alloc (.cells zv.cells t)) d rfl rfl rfl rfl _ hl.symm λj c hj=>?_;have pM:j<zv.cells.size:=by have:=(aV.1 hj).1;omega
 have hv:zv.cells[j]?=some zv.cells[j]:=by simp[pM]
 have h1:=rq.1 ax _ (nB hv);simp only[jI,hv,dB];rcases hzc j _ c hv hj with rfl|⟨h2,rfl⟩
 ·refine rp ?_;generalize zv.cells[j]=v at h1;cases v<;>first|rfl|(simp[Value.oneCell']at h1)
 ·rw[h2];exact cj.emp none
theorem OE(t:Nat)(hr:s.r t=.val .emp)(h:Rel P E w0 I0 n s a w):Rel P E w0 I0 n {s with r:=bF s.r t (.full [])} a w:=by
 obtain⟨I,be,h⟩:=h;refine⟨I,be,h.since,h.size,h.defers,λt' ht=>?_,h.boxes,h.inj,h.own,h.tie,h.aO⟩;by_cases ot:t'=t
 ·subst ot;have h1:=h.cr t' ht;rw[hr]at h1;simp only[bA];generalize a.tmps.getD t' undef=v at h1;cases(show cj w I v .emp from h1)with
  |emp A=>
   refine⟨?_,A,rfl⟩;cases A with
   |none=>exact .fJ 0|some a=>exact .sl a 0 0 0 [] (λ_ _=>undef) rfl (aP _) (eC _) (λi x h=>by simp at h) (λi j x c h=>by simp at h) (λi j x c h=>by simp at h) (λi j x c h=>by simp at h)
 ·simpa only[ay _ _ ot]using h.cr t' ht
theorem u7{x:Operand}(ho:o.op=.call {callee:=.builtin .len,args:=#[x],argTypes:=#[t]})(ax:aJ n o=true)(hu:P.underlying t=some (.slice e)){m:Nat}
  (hx:(∃i sz,s.ev x=.val (.view i sz m))∨(s.ev x=.val .emp/\m=0)):dm P E w0 I0 n o s (.val (.fl (.int .i64 m))):=by
 intro a w I be hR;have h1:=au ax (x:=x) (by simp[ho,Op.operands,Call.operands]) hR;refine⟨.int .i64 m,?_,.fl _ rfl⟩;obtain⟨cs,jl⟩:=fU ho a;rw[jl];simp only[List.map_toArray,eD,vB];have hv:∃A c,a.eval x=.slice A m c:=by
  rcases hx with⟨i,sz,hx⟩|⟨hx,rfl⟩
  ·rw[hx]at h1;generalize a.eval x=v at h1;cases(show cj w I v (.view i sz m)from h1)with
   |view=>exact ⟨_,_,rfl⟩|qv=>exact ⟨_,_,rfl⟩
  ·rw[hx]at h1;generalize a.eval x=v at h1;cases(show cj w I v .emp from h1)with
   |emp A=>exact ⟨_,_,rfl⟩
 obtain⟨A,c,hv⟩:=hv;simp[builtin,Builtin.len_,dr hu,hv,goInt]
theorem HQ{x:Operand}(ho:o.op=.box t x)(ax:aJ n o=true)(hE:E.fixed=false)(hu:s.u i=false)(hx:bh (s.ev x)=some v)
  (hK:K ((s.lay i (.cells v.cells)).put o.dst (.val (.ptr i 0)))):Sound P E w0 I0 n o s K:=by
 rintro a w ⟨I,be,hR⟩ Qc;have h1:=c9 (au ax (x:=x) (by simp[ho,Op.operands]) hR) hx;have cu:(execOp a.eval o).run P w=.ok (.value (.pointer (some ⟨w.heap.size,0,none⟩))) (w.alloc (.cells (a.eval x).cells t)):=by simp[execOp,ho,Instr.box,newVar,newRow]
 have hc:=zo P h1;have hn:=hR.Te (w':=w.alloc (.cells (a.eval x).cells t)) hE i hu (.cells v.cells) (ob:=.cells (a.eval x).cells t) rfl rfl rfl rfl (λhw hG=>⟨(a.eval x).cells,t,hw,hc.1,λj c hj=>(hc.2 j c hj).mono hG⟩);refine eA cu ⟨_,⟨_,be,hn.put o.dst (r:=.val (.ptr i 0)) ?_⟩,hK⟩;exact cj.ptr i 0 w.heap.size (by simp[Cells.lay])
theorem HR(ho:o.op=.makeMap t none)(hE:E.fixed=false)(hu:s.u i=false)
  (hK:K ((s.lay i (.map [])).put o.dst (.val (.mp i)))):Sound P E w0 I0 n o s K:=by
 rintro a w ⟨I,be,hR⟩ Qc;have cu:(execOp a.eval o).run P w=.ok (.value (.map (some w.heap.size))) {w with heap:=w.heap.push (.map #[] 0)}:=by simp[execOp,ho,Instr.makeMap,newObj,Sem.run]
 have hn:=hR.Te (w':={w with heap:=w.heap.push (.map #[] 0)}) hE i hu (.map []) (ob:=.map #[] 0) rfl rfl rfl rfl (λhw hG=>⟨#[],0,hw,rfl,λ_ h=>(by cases h),λj x h=>by simp at h,λj e h=>by simp at h⟩);refine eA cu ⟨_,⟨_,be,hn.put o.dst (r:=.val (.mp i)) ?_⟩,hK⟩;exact cj.mp i w.heap.size (by simp[Cells.lay])
theorem xL{B:Nat}{cur fE:Array Value}(hw:w.heap[B]?=some (.cells cur t (0,0)))(dh:fE.size=cur.size):∀B',Shape w (w.setRow B fE) B':=by refine uh (λk hk _=>?_) hw (o7 w B cur fE t (0,0) hw) dh;exact nR w B k fE hk
theorem Fq{x:Operand}(ho:o.op=.store t p x)(ax:aJ n o=true)(kg:o.dst=none){off:Nat}(jX:E.ro i=none){cs:List AV}(hp:s.ev p=.val (.ptr i off))(ha:s.a i=some (.cells cs))(hx:bh (s.ev x)=some v)(Qy:v.wf)(h0:0<P.cellsOf t)
  (hl:v.cells.length=P.cellsOf t) (ga:off+v.cells.length<=cs.length) (hK:K {s with a:=bF s.a i (some (.cells (aR cs off v.cells)))}):Sound P E w0 I0 n o s K:=by
 rintro a w ⟨I,be,hR⟩ Qc;have hq:=au ax (x:=p) (by simp[ho,Op.operands]) hR;have Ca:=c9 (au ax (x:=x) (by simp[ho,Op.operands]) hR) hx;rw[hp]at hq;obtain⟨B,hB,e1⟩:=np (show cj w I (a.eval p) (.ptr i off)from hq);obtain⟨B',cZ,cur,T,hw,jl,SH⟩:=hR.aO.obj i _ ha;rw[hB]at cZ;injection cZ with cZ;subst cZ;obtain⟨sP,vD⟩:=zo P Ca;have oG:=Gg P Ca Qy;have pc:off+(a.eval x).cells.size<=cur.size:=by omega
 have cu:=jJ (P:=P) (t:=t) hw (by rw[sP,hl]) h0 oG pc;have dh:(aR cur.toList off (a.eval x).cells.toList).toArray.size=cur.size:=by rw[mN,bw (by simpa using pc)];simp
 refine kE (w':=w.setRow B (aR cur.toList off (a.eval x).cells.toList).toArray) ?_ ⟨_,⟨I,be,?_⟩,hK⟩
 ·simp[execOp,ho,e1,Instr.storeAt,Instr.sureAddr,cu]
 ·rw[kg];refine hR.MT i jX (.cells (aR cs off v.cells)) B (by simp[ha]) hB rfl rfl rfl (setRow_size w B _) (λk hk=>nR w B k _ hk) (xL hw dh) (λG=>⟨_,T,o7 w B cur _ T (0,0) hw,by rw[dh,bw ga,jl],λj c hj=>?_⟩);refine cj.mono G ?_;rw[cw ga]at hj;rw[fu (by simpa using pc)];have SI:(a.eval x).cells.toList.length=v.cells.length:=by simpa using sP
  rw[SI];by_cases q1:j<off
  ·rw[ap q1]at hj⊢;exact SH j c hj
  ·rw[ai q1]at hj⊢;by_cases q2:j<off+v.cells.length
   ·rw[ap q2]at hj⊢;have:=vD _ c hj;simpa[xf]using this
   ·rw[ai q2]at hj⊢;exact SH j c hj
theorem zp{x:Operand}(ho:o.op=.store t p x)(ax:aJ n o=true)(kg:o.dst=none){j k:Nat}(jX:E.ro i=none){y:AV}(hp:s.ev p=.val (.ptr i (j*P.cellsOf e+k)))(ha:s.a i=some (.aT e xs))
  (hx:bh (s.ev x)=some v) (Qy:v.wf) (h0:0<P.cellsOf t) (hl:v.cells.length=P.cellsOf t) (hy:xs[j]?=some y) (ga:k+v.cells.length<=y.cells.length) (Mn:y.isAgg=true∨(k=0/\v.isAgg=false))
  (hK:K {s with a:=bF s.a i (some (.aT e (xs.set j (eX y k v.cells))))}):Sound P E w0 I0 n o s K:=by
 rintro a w ⟨I,be,hR⟩ Qc;have hq:=au ax (x:=p) (by simp[ho,Op.operands]) hR;have Ca:=c9 (au ax (x:=x) (by simp[ho,Op.operands]) hR) hx;rw[hp]at hq;obtain⟨B,hB,e1⟩:=np (show cj w I (a.eval p) (.ptr i (j*P.cellsOf e+k))from hq);obtain⟨sP,Sf⟩:=zo P Ca;have vD:=Gg P Ca Qy;obtain⟨B',cZ,wX,qD,pH,cur,cap,hw,jl,E1,Hs,dH⟩:=hR.aO.obj i _ ha;rw[hB]at cZ;injection cZ with cZ;subst cZ;have ui:j<xs.length:=(aV.1 hy).1;have hyl:=(pH j y hy).1;have vE:(j+1)*P.cellsOf e<=cap*P.cellsOf e:=fK _ (by omega);rw[ew,kF]at vE;have pc:j*P.cellsOf e+k+(a.eval x).cells.size<=cur.size:=by omega
 have cu:=jJ (P:=P) (t:=t) hw (by rw[sP,hl]) h0 vD pc;have Mp:(aR cur.toList (j*P.cellsOf e+k) (a.eval x).cells.toList).toArray.size=cur.size:=by rw[mN,bw (by simpa using pc)];simp
 have hlen:(xs.set j (eX y k v.cells)).length=xs.length:=by simp
 have jV:(eX y k v.cells).cells=aR y.cells k v.cells/\(eX y k v.cells).wf:=by
  cases hyc:y with
  |agg cs=>
   have Mq:=(pH j y hy).2;rw[hyc]at Mq ga;refine⟨rfl,λc hc=>?_⟩;simp only[eX,AV.cells,aR,dt]at hc;rcases hc with(hc|hc)|hc
   ·exact Mq c (CF hc)
   ·exact Qy c hc
   ·exact Mq c (Mr hc)
  |_=>
   rw[hyc]at Mn ga;obtain⟨rfl,hva⟩:=Mn.resolve_left (by simp[AV.isAgg]);have:v.cells=[v]:=by cases v<;>first|rfl|(simp[AV.isAgg]at hva)
   rw[this];refine⟨?_,?_⟩
   ·cases v<;>first|rfl|(simp[AV.isAgg]at hva)
   ·simpa[eX]using Qy
 refine kE (w':=w.setRow B (aR cur.toList (j*P.cellsOf e+k) (a.eval x).cells.toList).toArray) ?_ ⟨_,⟨I,be,?_⟩,hK⟩
 ·simp[execOp,ho,e1,Instr.storeAt,Instr.sureAddr,cu]
 ·rw[kg];refine hR.MT i jX (.aT e (xs.set j (eX y k v.cells))) B (by simp[ha]) hB rfl rfl rfl (setRow_size w B _) (λk hk=>nR w B k _ hk) (xL hw Mp) (λG=>⟨wX,by rw[hlen];exact qD,λi2 x2 h2=>?_,?_⟩)
  ·rw[uW]at h2;split at h2
   ·rename_i h3;subst h3;try rw[ap ui]at h2
    injection h2 with h2;subst h2;refine⟨?_,jV.2⟩;rw[jV.1,bw ga,hyl]
   ·exact pH _ _ h2
  ·refine ⟨_,cap,o7 w B cur _ e (0,0) hw,by rw[Mp,jl],E1,by rw[hlen];exact Hs,λi2 j2 x2 c h2 h3=>?_⟩;refine cj.mono (w:=w) (I:=I) G ?_;rw[fu (by simpa using pc)];have SI:(a.eval x).cells.toList.length=v.cells.length:=by simpa using sP
   rw[SI];rw[uW]at h2;split at h2
   ·rename_i h4;subst h4;try rw[ap ui]at h2
    injection h2 with h2;subst h2;rw[jV.1,cw ga]at h3;by_cases q1:j2<k
    ·rw[ap (by omega)];rw[ap q1]at h3;exact dH j j2 y c hy h3
    ·rw[ai q1]at h3;rw[ai (by omega)];by_cases q2:j2<k+v.cells.length
     ·rw[ap q2]at h3;rw[ap (by omega)];have:=Sf _ c h3;have e2:j*P.cellsOf e+j2-(j*P.cellsOf e+k)=j2-k:=by omega
      rw[e2];simpa[xf]using this
     ·rw[ai q2]at h3;rw[ai (by omega)];exact dH j j2 y c hy h3
   ·rename_i h4;have pM:j2<P.cellsOf e:=by rw[<-(pH _ _ h2).1];exact (aV.1 h3).1
    have hr:=dH i2 j2 x2 c h2 h3;rcases Nat.lt_or_gt_of_ne h4 with h5|h5
    ·have:(j+1)*P.cellsOf e<=i2*P.cellsOf e:=fK _ h5;rw[ew,kF]at this;rw[ai (by omega),ai (by omega)];exact hr
    ·have:(i2+1)*P.cellsOf e<=j*P.cellsOf e:=fK _ h5;rw[ew,kF]at this;rw[ap (by omega)];exact hr
def xM(d:TypeDesc)(k:Value):List (AV×AV)->Nat->Option (Option (Nat×AV))
 |[],_=>some none|(.fl k',v)::es,i=>match Instr.sameNow d k k' with
  |some true=>some (some (i,v))|some false=>xM d k es (i+1)
  |none=>none
 |_::_,_=>none
theorem pS{d:TypeDesc}{k:Value}:∀{es:List (AV×AV)}{cE:List MapEntry}{i:Nat}{r:Option (Nat×AV)},cE.length=es.length->(∀(j:Nat)(e:AV×AV),es[j]?=some e->∃x,cE[j]?=some x/\cj w I x.key e.1/\cj w I x.val e.2)->xM d k es i=some r->
  match r with
  |none=>Instr.findNow d k cE i=some none|some (j,av)=>i<=j/\∃x,cE[j-i]?=some x/\Instr.findNow d k cE i=some (some (j,x.val))/\cj w I x.val av/\(es[j-i]?).map (·.2)=some av
 |[],[],i,r,hl,h,hf=>by simp only[xM,ah]at hf;subst hf;rfl|[],_::_,i,r,hl,h,hf=>by simp at hl
 |e::es,[],i,r,hl,h,hf=>by simp at hl|(k0,v0)::es,x::cE,i,r,hl,h,hf=>by
  obtain⟨x',h1,h2,h3⟩:=h 0 (k0,v0) rfl;simp only[ik,ah]at h1;subst h1;have aH:∀(j:Nat)(e:AV×AV),es[j]?=some e->∃x,cE[j]?=some x/\cj w I x.key e.1/\cj w I x.val e.2:=λj e he=>by obtain⟨y,q1,q2⟩:=h (j+1) e (by simpa using he);exact⟨y,by simpa using q1,q2⟩
  cases k0 with
  |fl k'=>
   have hk:=bR h2;simp only[xM]at hf;simp only[Instr.findNow];rw[hk];cases hs:Instr.sameNow d k k' with
   |none=>rw[hs]at hf;cases hf
   |some b=>
    rw[hs]at hf;cases b with
    |true=>simp only[ah]at hf;subst hf;exact⟨aP _,x,by simp,rfl,h3,by simp⟩|false=>
     have:=pS (i:=i+1) (by simpa using hl) aH hf;cases r with
     |none=>exact this|some p=>
      obtain⟨j,av⟩:=p;obtain⟨q1,y,q2,q3,q4,q5⟩:=this;have e:j-i=(j-(i+1))+1:=by omega
      exact⟨by omega,y,by rw[e];simpa using q2,q3,q4,by rw[e];simpa using q5⟩
  |_=>simp[xM]at hf
theorem MZ{z:Value}(h:(z.cells.all λv=>v.oneCell')=true):cj w I z (kG z):=by
 cases z with
 |agg cs=>refine .agg cs _ (by simp) λj c hj=>?_;have:=JK (w:=w) (I:=I) h j (c:=c) (by simpa[kG,AV.cells]using hj);simpa[Value.cells]using this|_=>
  simp only[Value.cells,rq]at h;exact ni (h _ (by simp))
theorem HS{x:Operand}{ok:Bool}(ho:o.op=.lookup t x y ok)(ax:aJ n o=true)(hu:P.underlying t=some (.map kt vt))(hd:P.underlying kt=some d)
  (hx:(∃i c,s.ev x=.val (.mp i)/\s.a i=some (.map es c))∨(s.ev x=.val (.fl (.map none))/\es=[])) (hy:s.ev y=.val (.fl k)) (hk:IsKey d k) {r:Option (Nat×AV)} (hf:xM d k es 0=some r) {z:AV} (hz:zeroOf P vt=some z):
  dm P E w0 I0 n o s (if ok then .fb [.val ((r.map (·.2)).getD z),.val (.fl (.bool r.isSome))]else .val ((r.map (·.2)).getD z)):=by
 intro a w I be hR;have h1:=au ax (x:=x) (by simp[ho,Op.operands]) hR;have h2:=au ax (x:=y) (by simp[ho,Op.operands]) hR;rw[hy]at h2;have hky:=bR h2;obtain⟨ti,zv,hi,AE,J4,hz3,rfl⟩:=kT hz;have hzero:(zeroValue vt).run P w=.ok zv w:=by simp[zeroValue,typeInfo,hi,AE]
 have OF:∃cE:Array MapEntry,cE.size=es.length/\(∀(j:Nat)(e:AV×AV),es[j]?=some e->∃x,cE.toList[j]?=some x/\cj w I x.key e.1/\cj w I x.val e.2)/\
   ((a.eval x=.map none/\cE=#[])∨∃B clock,a.eval x=.map (some B)/\(getObj B).run P w=.ok (.map cE clock) w):=by
  rcases hx with⟨i,c,hx,ha⟩|⟨hx,rfl⟩
  ·rw[hx]at h1;obtain⟨B,hB,e1⟩:=xJ (show cj w I (a.eval x) (.mp i)from h1);obtain⟨B',cZ,cE,clock,q1,q2,q2',q3,q4⟩:=hR.aO.obj i _ ha;rw[hB]at cZ;injection cZ with cZ;subst cZ;refine⟨cE,q2,λj e he=>?_,.inr ⟨B,clock,e1,by simp[getObj,Sem.run,q1]⟩⟩;obtain⟨x,h3,h4⟩:=q4 j e he;exact⟨x,by simpa using h3,h4⟩
  ·rw[hx]at h1;exact⟨#[],rfl,λj e he=>by simp at he,.inl ⟨bR h1,rfl⟩⟩
 obtain⟨cE,dh,fN,aef⟩:=OF;have HU:=pS (i:=0) (by simpa using dh) fN hf;have key:∃v b,(Instr.lookup t (a.eval x) (a.eval y) ok).run P w=.ok (if ok then .tuple #[v,.bool b]else v) w/\cj w I v ((r.map (·.2)).getD (kG zv))/\b=r.isSome:=by
  have u9:∀b,(Instr.checkKey b 10000 kt (a.eval y)).run P w=.ok () w:=λb=>by rw[hky];exact run_checkKey hd hk b 9999
  have so:(Instr.lookup t (a.eval x) (a.eval y) ok).run P w=((Instr.findKey kt (a.eval y) cE.toList).run P w).andThen λr w'=>Sem.run P (do
    let(v,ok')<-match r with
     |some (_,v)=>pure (v,true)|none=>pure (<-zeroValue vt,false)
    pure (if ok then .tuple #[v,.bool ok']else v)) w':=by
   rcases aef with⟨e1,rfl⟩|⟨B,clock,e1,tu⟩
   ·unfold Instr.lookup;simp only[bJ,dr hu,bX,e1,b9,u9];rfl
   ·unfold Instr.lookup;simp only[bJ,dr hu,bX,e1,b9,u9,tu];rfl
  rw[so];cases r with
  |none=>have hfk:=run_findKey (P:=P) (w:=w) hd (k:=k) HU;rw[hky,hfk];simp only[bX,bJ,hzero,b9];exact⟨zv,false,by cases ok<;>rfl,MZ J4,rfl⟩
  |some p=>obtain⟨j,av⟩:=p;obtain⟨_,x',q1,q2,q3,_⟩:=HU;have hfk:=run_findKey (P:=P) (w:=w) hd (k:=k) q2;rw[hky,hfk];simp only[bX,b9];exact⟨x'.val,true,by cases ok<;>rfl,q3,rfl⟩
 obtain⟨v,b,HV,J5,rfl⟩:=key;cases ok with
 |true=>
  refine⟨.tuple #[v,.bool r.isSome],?_,#[v,.bool r.isSome],rfl,rfl,λj q hq=>?_⟩
  ·simp only[execOp,ho,bJ,HV,bX,b9,bp]
  ·match j,hq with
   |0,hq=>simp at hq;subst hq;exact J5|1,hq=>simp at hq;subst hq;exact cj.fl _ rfl
   |j+2,hq=>simp at hq
 |false=>refine⟨v,?_,J5⟩;simp only[execOp,ho,bJ,HV,bX,b9,gB,bY]
theorem HW{x:Operand}(ho:o.op=.call {callee:=.builtin .len,args:=#[x],argTypes:=#[t]})(ax:aJ n o=true)(hu:P.underlying t=some (.map kt vt))
  (hx:(∃i c,s.ev x=.val (.mp i)/\s.a i=some (.map es c))∨(s.ev x=.val (.fl (.map none))/\es=[])):dm P E w0 I0 n o s (.val (.fl (.int .i64 es.length))):=by
 intro a w I be hR;have h1:=au ax (x:=x) (by simp[ho,Op.operands,Call.operands]) hR;refine⟨.int .i64 es.length,?_,.fl _ rfl⟩;obtain⟨cs,jl⟩:=fU ho a;rw[jl];simp only[List.map_toArray,eD,vB];rcases hx with⟨i,c,hx,ha⟩|⟨hx,rfl⟩
 ·rw[hx]at h1;obtain⟨B,hB,e1⟩:=xJ (show cj w I (a.eval x) (.mp i)from h1);obtain⟨B',cZ,cE,clock,q1,q2,q2',q3,q4⟩:=hR.aO.obj i _ ha;rw[hB]at cZ;injection cZ with cZ;subst cZ;have tu:(getObj B).run P w=.ok (.map cE clock) w:=by simp[getObj,Sem.run,q1]
  simp[builtin,Builtin.len_,dr hu,e1,goInt,tu,q2]
 ·rw[hx]at h1;have e1:=bR h1;simp[builtin,Builtin.len_,dr hu,e1,goInt]
theorem HX{k':Value}(hk:IsKey d k)(h:Instr.sameNow d k k'=some true):Instr.sameBits 10000 k' k=true:=by cases d<;>cases k<;>cases k'<;>simp_all[IsKey,Instr.sameNow,Instr.sameBits,bytes_beq]
def Xc(d:TypeDesc)(k:Value)(v:AV)(es:List (AV×AV)):Option (List (AV×AV)):=
 match xM d k es 0 with
 |some (some (j,_))=>some (es.set j (.fl k,v))|some none=>some (es++[(.fl k,v)])
 |none=>none
theorem xN{d:TypeDesc}{k:Value}:∀{l:List MapEntry}{i j:Nat}{v:Value},Instr.findNow d k l i=some (some (j,v))->i<=j/\∃x,l[j-i]?=some x/\Instr.sameNow d k x.key=some true
 |[],i,j,v,h=>by simp[Instr.findNow]at h|e::es,i,j,v,h=>by
  simp only[Instr.findNow]at h;cases hs:Instr.sameNow d k e.key with
  |none=>rw[hs]at h;cases h
  |some b=>
   rw[hs]at h;cases b with
   |true=>simp only[ah,aS]at h;obtain⟨rfl,_⟩:=h;exact⟨aP _,e,by simp,hs⟩|false=>
    obtain⟨q1,x,q2,q3⟩:=xN (i:=i+1) h;have e2:j-i=(j-(i+1))+1:=by omega
    exact⟨by omega,x,by rw[e2];simpa using q2,q3⟩
theorem BW{x z:Operand}(ho:o.op=.mapUpdate t x y z∨o.op=.insert t x y z)(ax:aJ n o=true)(kg:o.dst=none)(hu:P.underlying t=some (.map kt vt))(hd:P.underlying kt=some d)(jX:E.ro i=none){es':List (AV×AV)}{c:Option (List Nat×Nat)}
  (hx:s.ev x=.val (.mp i)) (ha:s.a i=some (.map es c)) (hy:s.ev y=.val (.fl k)) (hk:IsKey d k) (JX:One k) (hz:bh (s.ev z)=some v) (yW:Xc d k v es=some es')
  (hK:K {s with a:=bF s.a i (some (.map es'))}):Sound P E w0 I0 n o s K:=by
 rintro a w ⟨I,be,hR⟩ Qc;have qu:∀q,q=x∨q=y∨q=z->q∈o.op.operands:=λq hq=>by rcases ho with ho|ho<;>rcases hq with rfl|rfl|rfl<;>simp[ho,Op.operands]
 have h1:=au ax (x:=x) (qu x (.inl rfl)) hR;have h2:=au ax (x:=y) (qu y (.inr (.inl rfl))) hR;have h3:=c9 (au ax (x:=z) (qu z (.inr (.inr rfl))) hR) hz;rw[hx]at h1;rw[hy]at h2;have hky:=bR h2;obtain⟨B,hB,e1⟩:=xJ (show cj w I (a.eval x) (.mp i)from h1);obtain⟨B',cZ,cE,clock,q1,q2,q2',q3,q4⟩:=hR.aO.obj i _ ha;rw[hB]at cZ;injection cZ with cZ;subst cZ;have tu:(getObj B).run P w=.ok (.map cE clock) w:=by simp[getObj,Sem.run,q1]
 have u9:(Instr.checkKey false 10000 kt (a.eval y)).run P w=.ok () w:=by rw[hky];exact run_checkKey hd hk false 9999
 have jV:∀o',(setObj B o').run P w=.ok () {w with heap:=w.heap.setIfInBounds B o'}:=λo'=>by simp[setObj,Sem.run,q1]
 have fN:∀(j:Nat)(e:AV×AV),es[j]?=some e->∃x,cE.toList[j]?=some x/\cj w I x.key e.1/\cj w I x.val e.2:=λj e he=>by obtain⟨x,h3,h4⟩:=q4 j e he;exact⟨x,by simpa using h3,h4⟩
 have eK:B<w.heap.size:=(eT.1 q1).1;have fin:∀(AW:Array MapEntry)(tv:Nat),(Instr.mapUpdate t (a.eval x) (a.eval y) (a.eval z)).run P w=.ok () {w with heap:=w.heap.setIfInBounds B (.map AW tv)}->
   (∀{w':World},cH w w' I I->w'.heap[B]?=some (.map AW tv)->qx P w' I B (.map es'))->o.wp P a w (λa' w'=>∃s',Rel P E w0 I0 n s' a' w'/\K s') Qc:=λAW tv cu hob=>by
  have uV:(w.heap.setIfInBounds B (.map AW tv))[B]?=some (.map AW tv):=by simp[eK]
  have qz:∀k,k≠B->(w.heap.setIfInBounds B (.map AW tv))[k]?=w.heap[k]?:=λk hk=>by simp[c5 hk]
  refine kE (w':={w with heap:=w.heap.setIfInBounds B (.map AW tv)}) ?_ ⟨_,⟨I,be,?_⟩,hK⟩
  ·rcases ho with ho|ho<;>simp[execOp,ho,cu]
  ·rw[kg];refine hR.MT i jX (.map es') B (by simp[ha]) hB rfl rfl rfl (by simp) qz (λB' cur t fr hc=>?_) (λG=>hob G uV);by_cases hBB:B'=B
   ·subst hBB;rw[q1]at hc;cases hc
   ·exact ⟨cur,by rw[<-hc];exact qz B' hBB,rfl⟩
 have sn:(Instr.mapUpdate t (a.eval x) (a.eval y) (a.eval z)).run P w=((Instr.findKey kt (a.eval y) cE.toList).run P w).andThen λr w'=>Sem.run P (do
   match r with
   |some (i,_)=>do
    let key<-Instr.keyThatStays (((cE[i]?).map (·.key)).getD (a.eval y)) (a.eval y)
    setObj B (.map (cE.modify i λe=>{e with key,val:=a.eval z}) clock)
   |none=>setObj B (.map (cE.push {key:=a.eval y,val:=a.eval z,born:=clock}) (clock+1))) w':=by
  unfold Instr.mapUpdate;simp only[bJ,dr hu,bX,e1,tu,u9];rfl
 unfold Xc at yW;split at yW
 ·rename_i j av0 hf;injection yW with yW;subst yW;obtain⟨_,x',r1,r2,r3,r4⟩:=pS (i:=0) (w:=w) (I:=I) (by simpa using q2) fN hf;simp only[rA]at r1 r4;have hfk:=run_findKey (P:=P) (w:=w) hd (k:=k) r2;obtain⟨_,x2,r5,r6⟩:=xN r2;simp only[rA]at r5;rw[r1]at r5;injection r5 with r5;subst r5;have pM:j<cE.size:=by have:=(aV.1 r1).1;simpa using this
  have hj:cE[j]?=some x':=by simpa using r1
  refine fin (cE.modify j λe=>{e with key:=k,val:=a.eval z}) clock ?_ λ{w'} G qB=>?_
  ·rw[sn,hky,hfk];simp only[bX,bJ,hj,bQ,dB];have:(Instr.keyThatStays x'.key k).run P w=.ok k w:=by unfold Instr.keyThatStays;rw[ap (HX hk r6)];rfl
   rw[this];simp only[bX,jV]
  ·refine ⟨_,clock,qB,by simp[q2],(λ_ h=>by cases h),λj' y hy=>?_,λj' e he=>?_⟩
   ·have hb:∀(j':Nat)(y:MapEntry),(cE.modify j λe=>{e with key:=k,val:=a.eval z})[j']?=some y->∃y0,cE[j']?=some y0/\y.born=y0.born:=λj' y hy=>by
     rw[J6]at hy;split at hy
     ·obtain ⟨y0,h0,rfl⟩:=ck.1 hy;exact⟨y0,h0,rfl⟩
     ·exact ⟨y,hy,rfl⟩
    obtain⟨y0,g1,g2⟩:=hb j' y hy;obtain⟨g3,g4⟩:=q3 j' y0 g1;refine⟨by rw[g2];exact g3,λj2 y2 AX SG=>?_⟩;obtain⟨y3,g5,g6⟩:=hb j2 y2 AX;exact g4 j2 y3 g5 (by rw[<-g6,SG,g2])
   ·rw[uW]at he;rw[J6];by_cases hjj:j=j'
    ·subst hjj;have ahW:j<es.length:=by omega
     simp only[bp,ahW,ah]at he;subst he;simp only[bp,hj,bQ];exact⟨_,rfl,cj.fl k JX,h3.mono G⟩
    ·simp only[hjj,bY]at he⊢;obtain⟨y0,g1,g2,g3⟩:=q4 j' e he;exact⟨y0,g1,g2.mono G,g3.mono G⟩
 ·rename_i hf;injection yW with yW;subst yW;have hnf:=pS (i:=0) (w:=w) (I:=I) (by simpa using q2) fN hf;have hfk:=run_findKey (P:=P) (w:=w) hd (k:=k) hnf;refine fin (cE.push {key:=k,val:=a.eval z,born:=clock}) (clock+1) ?_ λ{w'} G qB=>?_
  ·rw[sn,hky,hfk];simp only[bX,jV]
  ·have hb:∀(j':Nat)(y:MapEntry),(cE.push {key:=k,val:=a.eval z,born:=clock})[j']?=some y->(j'<cE.size/\cE[j']?=some y)∨(j'=cE.size/\y.born=clock):=λj' y hy=>by
    rw[JG]at hy;split at hy
    ·injection hy with hy;subst hy;exact .inr ⟨by assumption,rfl⟩
    ·exact .inl ⟨(eT.1 hy).1,hy⟩
   refine⟨_,clock+1,qB,by simp[q2],(λ_ h=>by cases h),λj' y hy=>?_,λj' e he=>?_⟩
   ·rcases hb j' y hy with⟨g1,g2⟩|⟨g1,g2⟩
    ·obtain ⟨g3,g4⟩:=q3 j' y g2;refine⟨by omega,λj2 y2 AX SG=>?_⟩;rcases hb j2 y2 AX with⟨g5,g6⟩|⟨g5,g6⟩
     ·exact g4 j2 y2 g6 SG
     ·omega
    ·refine ⟨by omega,λj2 y2 AX SG=>?_⟩;rcases hb j2 y2 AX with⟨g5,g6⟩|⟨g5,g6⟩
     ·have:=(q3 j2 y2 g6).1;omega
     ·omega
   ·by_cases pM:j'<es.length
    ·rw[kf pM]at he;obtain⟨y0,g1,g2,g3⟩:=q4 j' e he;refine⟨y0,?_,g2.mono G,g3.mono G⟩;rw[JG,ai (by omega)];exact g1
    ·rw[lF (by omega)]at he;have hj0:j'=es.length:=by have:=(aV.1 he).1;simp at this;omega
     subst hj0;simp at he;subst he;refine⟨{key:=k,val:=a.eval z,born:=clock},?_,cj.fl k JX,h3.mono G⟩;rw[JG,ap q2.symm]
 ·cases yW
theorem J7(t:Nat)(d:Nat){e len:Nat}(jX:E.ro i=none)(hr:s.r t=.val (.view i (P.cellsOf e) len))(ha:s.a i=some (.aT e xs))(hl:len<=xs.length)(h0:0<len)(h:Rel P E w0 I0 n s a w):
  Rel P E w0 I0 n {s with r:=bF s.r t (.view d (s.g d+1) 0 len),b:=bF s.b d (some (.aT e xs)),g:=bF s.g d (s.g d+1),a:=bF s.a i none} a w:=by
 obtain⟨I,be,h⟩:=h;obtain⟨B,hB,lv,iE,jk,sw⟩:=h.aO.obj i _ ha;have hs:=h.Xa i d jX ha hB;refine⟨I,bF be d (some B),hs.since,hs.size,hs.defers,λt' ht=>?_,hs.boxes,hs.inj,hs.own,hs.tie,hs.aO⟩;by_cases ot:t'=t
 ·subst ot;have h1:=h.cr t' ht;rw[hr]at h1;simp only[bA];refine⟨by rw[bA];exact aP _,λ_=>?_⟩;unfold viewAt;simp only[bA];generalize a.tmps.getD t' undef=v at h1;cases(show cj w I v (.view i (P.cellsOf e) len)from h1)with
  |view _ _ _ B' cap e2 cur A cZ hw iX jq hA=>rw[hB]at cZ;injection cZ with cZ;subst cZ;obtain⟨fE,eY,r1,r2,r3,r4,r5⟩:=sw;rw[hw]at r1;injection r1 with r1;injection r1 with r1 r1';subst r1 r1';exact⟨by omega,cur,cap,A,hw,iX,by simp,λhc=>by simpa using hA hc⟩|qv=>omega
 ·have h1:=hs.cr t' ht;simpa only[ay _ _ ot]using h1
end
end Go.Ev
namespace Go.Ev
open Go
variable{f:FuncId}{t e:TypeId}{N:Nat}{y:Operand}{k:IntKind}{m:Int}{xs ys:List AV}{out:Out}{X:AV->St->Prop}
section
variable{P:Program}{E:Env}{w0:World}{I0:Cells}{n:Nat}{o:Oper}{s:St}{a:Act}{w:World}{I:Cells}{be:Nat->Option Nat}
theorem BX(ht:P.underlying t=some (.array N e))(hs:0<P.cellsOf e)(p:Addr)(k:IntKind)(m:Int)(h0:0<=m)(h1:m<N)(w:World):
  (Instr.indexAt t (.pointer (some p)) (.int k m)).run P w=.ok (.pointer (some (p.add (m.toNat*P.cellsOf e)))) w:=by
 simp[Instr.indexAt,asIntOf,dr ht,Instr.sureAddr,run_sizeOf rfl hs,h0,h1]
def Tq(j:Nat):br->br
 |.loc d g sz i k=>.loc d g sz i (k+j)|.val (.ptr i off)=>.val (.ptr i (off+j))
 |.val (.ref cs)=>.val (.ref (cs.drop j))|_=>.none
theorem Dc{x:Operand}(ho:o.op=.indexAddr t x y)(ax:aJ n o=true)(ht:P.underlying t=some (.array N e))(hs:P.cellsOf e=1)(hy:s.ev y=.val (.fl (.int k m)))(h0:0<=m)(h1:m<N)
  (hx:(∃cs,s.ev x=.val (.ref cs))∨(∃d gg sz i k,s.ev x=.loc d gg sz i k/\gg=s.g d/\s.b d≠none)∨∃i off,s.ev x=.val (.ptr i off)):dm P E w0 I0 n o s (Tq m.toNat (s.ev x)):=
 λa w I be hR=>by
  have h2:=au ax (x:=x) (by simp[ho,Op.operands]) hR;have h3:=au ax (x:=y) (by simp[ho,Op.operands]) hR;rw[hy]at h3;have e2:=bR h3;have cu:∀p,a.eval x=.pointer (some p)->(execOp a.eval o).run P w=.ok (.value (.pointer (some (p.add m.toNat)))) w:=λp hp=>by have:=BX ht (by omega) p k m h0 h1 w;rw[hs,yX]at this;simp[execOp,ho,hp,e2,this]
  rcases hx with⟨cs,hx⟩|⟨d,gg,sz,i,k',hx,hg,hb⟩|⟨i,off,hx⟩
  ·rw[hx]at h2⊢;obtain⟨p,e1,hp⟩:=cj.SD h2;exact⟨_,cu p e1,hp _⟩
  ·rw[hx]at h2⊢;obtain⟨B,hB,e1⟩:=vx h2 hg hb;refine⟨_,cu _ e1,h2.1,λ_ _=>⟨B,hB,?_⟩⟩;rw[dJ,iU]
  ·rw[hx]at h2⊢;generalize hv:a.eval x=v at h2;cases(show cj w I v (.ptr i off)from h2)with
   |ptr _ _ B hB=>refine⟨_,cu _ hv,?_⟩;rw[dJ];exact cj.ptr (w:=w) (I:=I) i (off+m.toNat) B hB
theorem Dd{x:Operand}(ho:o.op=.index t x y)(ax:aJ n o=true)(ht:P.underlying t=some (.array N e))(hs:P.cellsOf e=1)(Jw:nS P e=some false)(hy:s.ev y=.val (.fl (.int k m)))(h0:0<=m)(h1:m<N)
  {cs:List AV} (hx:s.ev x=.val (.agg cs)) {c:AV} (hc:cs[m.toNat]?=some c):dm P E w0 I0 n o s (.val c):=
 λa w I be hR=>by
  have h2:=au ax (x:=x) (by simp[ho,Op.operands]) hR;have h3:=au ax (x:=y) (by simp[ho,Op.operands]) hR;rw[hy]at h3;rw[hx]at h2;have e2:=bR h3;generalize hv:a.eval x=v at h2;cases(show cj w I v (.agg cs)from h2)with
  |agg vs _ hl hr=>
   have hj:m.toNat<vs.size:=by rw[hl];exact (aV.1 hc).1
   refine⟨vs.getD m.toNat undef,?_,hr _ _ hc⟩;simp[execOp,ho,hv,e2,Instr.index,asIntOf,dr ht,h0,h1,part,qC Jw,run_sizeOf (P:=P) hs (by omega),hj]
end
section
variable{P:Program}{E:Env}{w0:World}{I0:Cells}{n:Nat}{o:Oper}{s:St}{K:St->Prop}{a:Act}{w:World}{I:Cells}{be:Nat->Option Nat}
theorem BY{first:Array Operand}(ho:o.op=.makeFunc (.func f) first #[])(ax:aJ n o=true)(hx:bK s first.toList=some xs):
  dm P E w0 I0 n o s (.val (.nz f xs)):=
 λa w I be hR=>by
  have h1:=jK ax hR (ps:=first.toList) (λy hy=>by simp[ho,Op.operands];exact (by simpa using hy)) hx;refine⟨.func (.func f) (first.map a.eval) #[],by simp[execOp,ho,Instr.makeFunc],.nz f _ _ (by simpa using h1.1) λj c hc=>?_⟩;have hj:j<xs.length:=(aV.1 hc).1;have Js:j<first.size:=by have:=h1.1;simp at this;omega
  have:=h1.2 j (a.eval first[j]) c (by simp[Js]) hc;simpa[Js]using this
theorem Q4{x:Operand}{args:Array Operand}{argTypes:Array TypeId}(ho:o.op=.call {callee:=.value x,args:=args,argTypes:=argTypes})(ax:aJ n o=true){first:List AV}(hf:s.ev x=.val (.nz f first))(hx:bK s args.toList=some xs)
  (fN:Go.Proofs.Enters P f) (hR:aC P E w0 I0 n s a w I be):∃vs:Array Value,(execOp a.eval o).run P w=.ok (.enter f vs) w/\mm w I vs.toList (first++xs):=by
 have h1:=au ax (x:=x) (by simp[ho,Op.operands,Call.operands]) hR;rw[hf]at h1;obtain⟨vs,e1,sk,SH⟩:∃vs:Array Value,a.eval x=.func (.func f) vs #[]/\vs.size=first.length/\∀(j:Nat)(c:AV),first[j]?=some c->cj w I (vs.getD j undef) c:=by
  have Ml:cj w I (a.eval x) (.nz f first):=h1;generalize a.eval x=u at*;cases Ml with
  |nz f vs first hl hr=>exact ⟨vs,rfl,hl,hr⟩
 have dg:=jK ax hR (ps:=args.toList) (λy hy=>by simp[ho,Op.operands,Call.operands];exact .inr (by simpa using hy)) hx;refine⟨vs++(args.map a.eval),?_,by have:=dg.1;simp at this⊢;omega,λj v c hv hc=>?_⟩
 ·simp only[execOp,ho,resolve,e1,Deferred.ofValue,bJ,b9,bX,invoke,SR,fN (vs++(args.map a.eval)) w]
 ·simp only[SP]at hv;by_cases hj:j<first.length
  ·rw[kf (by simp;omega)]at hv;rw[kf hj]at hc;have:=SH j c hc;rw[iW]at hv;simpa[hv]using this
  ·rw[lF (by simp;omega)]at hv;rw[lF (by omega)]at hc;have e:j-vs.toList.length=j-first.length:=by simp[sk]
   rw[e]at hv;exact dg.2 _ v c (by simpa using hv) hc
theorem xO(hE:E.fixed=false)(jX:∀i,E.ro i=none)(cu:∀a w I be,aC P E w0 I0 n s a w I be->∃vs:Array Value,(execOp a.eval o).run P w=.ok (.enter f vs) w/\mm w I vs.toList ys)
  {a':Nat->Option Ob} {u':Nat->Bool} (hs:nE P E f ys s.a s.u out a' u') (hK:CP out (λrs=>K (({s with a:=a',u:=u'}:St).take o.dst rs)) (λy=>X y {s with a:=a',u:=u'})):kH P E w0 I0 n o s K X:=by
 rintro a w ⟨I,be,hR⟩ Qc hQ;obtain⟨fN,nF⟩:=hs;obtain⟨vs,cu,cY⟩:=cu a w I be hR;have hA0:nQ P (E.cx s.a I) w w I s.a s.u (λ_=>False):=⟨hR.aO.obj,hR.aO.inj,λi B hi ly=>by obtain⟨q1,q2,q3,q4,q5⟩:=hR.aO.own i B hi ly;exact⟨.inr (Env.eE.2 ⟨i,hi,ly⟩),q2,q3,q4,id⟩,hR.aO.un,λi x h=>by cases h⟩
 have hc:=nF w I vs hR.since.inv (λp hp=>⟨hR.since.lt p hp,hR.since.off p hp⟩) hA0 cY;unfold Oper.wp;rw[cu];simp only[vH];refine hc.mono λe w' hp=>?_;cases out with
 |ret rs=>
  obtain⟨v,I',bo,rfl,iX,lu,sy,sA,hA⟩:=hp;have lr:=hR.ur hE jX iX hA;have pf:∀k B,bo k=some B->∀d',s.b d'≠none->be d'≠some B:=λk B hB d' hn he=>by
   have h5:=(hR.own d' B hn he).2.1;rcases sA k B hB with h6|h6
   ·omega
   ·obtain ⟨i,hi,ly⟩:=Env.eE.1 h6;exact(hR.aO.own i B hi ly).2.2.2.2 ⟨d',hn,he⟩
  obtain⟨iK,h6⟩:=lr.take lu sy (λB hB=>by
   rcases hB with hB|hB
   ·exact .inl (dI hR.since.size hB)
   ·obtain ⟨i,hi,ly⟩:=Env.eE.1 hB;exact(hR.aO.own i B hi ly).1) pf (λk B hB i hi ly=>(hA.own i B hi ly).2.2.2.2 ⟨k,hB⟩) o.dst
  exact⟨_,⟨I',iK,h6⟩,hK⟩
 |cG y=>obtain⟨v,I',rfl,iX,dH,hA⟩:=hp;exact hQ y v _ a w' I' be hK (hR.ur hE jX iX hA) dH
theorem J8(cu:∀a w I be,aC P E w0 I0 n s a w I be->∃vs:Array Value,(execOp a.eval o).run P w=.ok (.enter f vs) w/\mm w I vs.toList ys)
  (hs:oI P E f ys out) (hK:CP out (λrs=>K (s.take o.dst rs)) (λy=>X y s)):kH P E w0 I0 n o s K X:=by
 rintro a w ⟨I,be,hR⟩ Qc hQ;obtain⟨fN,nF⟩:=hs;obtain⟨vs,cu,cY⟩:=cu a w I be hR;have hc:=nF w I vs hR.since.inv (λp hp=>⟨hR.since.lt p hp,hR.since.off p hp⟩) cY;unfold Oper.wp;rw[cu];simp only[vH];refine hc.mono λe w' hp=>?_;cases out with
 |ret rs=>
  obtain⟨v,I',bo,rfl,iX,lu,sy,sA,_⟩:=hp;have lr:=hR.called iX;have pf:∀k B,bo k=some B->∀d',s.b d'≠none->be d'≠some B:=λk B hB d' hn he=>by have h5:=(hR.own d' B hn he).2.1;have:=Env.fw (sA k B hB);omega
  obtain⟨iK,h6⟩:=lr.take lu sy (λB hB=>.inl (dI hR.since.size (Env.fw hB))) pf (λk B hB i hi ly=>by rw[iX.L1 rfl]at ly;have h5:=(hR.aO.own i B hi ly).2.1;have:=Env.fw (sA k B hB);omega) o.dst;exact⟨_,⟨I',iK,h6⟩,hK⟩
 |cG y=>obtain⟨v,I',rfl,iX,dH,_⟩:=hp;exact hQ y v s a w' I' be hK (hR.called iX) dH
end
end Go.Ev
