import Derived.Laws.Build
import Derived.Test.YtedadjfbbpjaiaaGreatZ1
set_option linter.all false
namespace Go.Ev
open Go
variable{t e t' u ft:TypeId}{v z:Value}{xs caps:List AV}{len l k d gg off i cap m sz dflt:Nat}{y:Operand}{op:BinOp}{P:Program}{lo hi mx:Option Operand}{E:Env}{k':IntKind}{f:FuncId}{p:Int}{cur:Array Value}{w' w0:World}{base:Nat->Prop}{args:Array Operand}{argTypes:Array TypeId}{α:Type}{c:AV}{parts:Array (Nat×Operand)}{A:Option Addr}{I0 I':Cells}{bo:Nat->Option Nat}{a':Nat->Option Ob}{u':Nat->Bool}{X:AV->St->Prop}{vs:List α}
def aR{α:Type}(cs:List α)(k:Nat)(vs:List α):List α:=cs.take k++vs++cs.drop (k+vs.length)
theorem bw{cs:List α}(h:k+vs.length<=cs.length):(aR cs k vs).length=cs.length:=by simp[aR];omega
theorem cw{cs:List α}(h:k+vs.length<=cs.length)(j:Nat):(aR cs k vs)[j]?=if j<k then cs[j]? else if j<k+vs.length then vs[j-k]? else cs[j]?:=by
 have hk:(cs.take k).length=k:=by simp;omega
 unfold aR;by_cases h1:j<k
 ·rw[ap h1,sO,kf (by rw[hk];exact h1),fZ,ap h1]
 ·rw[ai h1];by_cases h2:j<k+vs.length
  ·rw[ap h2,sO,lF (by rw[hk];omega),hk,kf (by omega)]
  ·rw[ai h2,sO,lF (by rw[hk];omega),hk,lF (by omega),lA];congr 1;omega
def vC:br->Prop
 |.val x=>x.wf|.full _=>True
 |.loc _ _ _ _ _=>True|.view _ _ _ _=>True
 |_=>False
section
variable{P:Program}{E:Env}{w0:World}{I0:Cells}{n:Nat}{o:Oper}{s:St}{K:St->Prop}{a:Act}{w:World}{I:Cells}{be:Nat->Option Nat}{b:Nat->Option Bx}{g:Nat->Nat}
theorem Mm(h:bD P w I be b g v (.view d gg off len))(hg:gg=g d)(hb:b d=some (.aT e xs)):∃A l c,v=.slice A l c:=by
 obtain⟨_,h3⟩:=nj h hg hb;cases hB:be d with
 |none=>rw[hB]at h3;obtain ⟨A,rfl⟩:=h3;exact ⟨_,_,_,rfl⟩|some B=>rw[hB]at h3;obtain ⟨_,_,A,_,_,rfl,_⟩:=h3;exact ⟨_,_,_,rfl⟩
theorem rC{r:br}(h:bD P w I be b g v r)(ho:vC r)
  (lC:∀d gg sz i k,r=.loc d gg sz i k->gg=g d/\b d≠none) (SE:∀d gg off len,r=.view d gg off len->gg=g d/\∃e xs,b d=some (.aT e xs)):∀u∈v.cells.toList,u.oneCell'=true:=by
 cases r with
 |val x=>
  have h':cj w I v x:=h;have Jr:x.wf:=ho;cases h' with
  |fl v WN=>
   intro u hu;cases v<;>first
    |(simp[One,Value.oneCell']at WN;done)
    |(simp[Value.cells]at hu;subst hu;rfl)
  |agg vs cs hl hr=>
   intro u hu;simp only[Value.cells,Array.mem_toList_iff]at hu;obtain⟨j,hj,rfl⟩:=Array.getElem_of_mem hu;have SC:j<cs.length:=by omega
   have h1:=hr j cs[j] (cq SC);have h2:=Om h1 (Jr _ (fx SC));simpa[hj]using h2
  |fJ c=>intro u hu;simp[Value.cells]at hu;subst hu;rfl|sl a n cap sz xs cv hn gy iE dh hc hI hr=>intro u hu;simp[Value.cells]at hu;subst hu;rfl
  |ref p cs cv hc hI hr=>intro u hu;simp[Value.cells]at hu;subst hu;rfl|fn f vs caps hl hr=>intro u hu;simp[Value.cells]at hu;subst hu;rfl
  |mI t v x hr=>intro u hu;simp[Value.cells]at hu;subst hu;rfl|ptr i off B hB=>intro u hu;simp[Value.cells]at hu;subst hu;rfl
  |view i sz len B cap e cur A hB hw hs hl hA=>intro u hu;simp[Value.cells]at hu;subst hu;rfl|qv i sz A cap h=>intro u hu;simp[Value.cells]at hu;subst hu;rfl
  |mp i B hB=>intro u hu;simp[Value.cells]at hu;subst hu;rfl|emp A=>intro u hu;simp[Value.cells]at hu;subst hu;rfl
  |nz f vs first hl hr=>intro u hu;simp[Value.cells]at hu;subst hu;rfl
 |full xs=>obtain ⟨A,rfl⟩:=h.2;intro u hu;simp[Value.cells]at hu;subst hu;rfl|loc d gg sz i k=>obtain⟨h1,h2⟩:=lC _ _ _ _ _ rfl;obtain⟨B,_,rfl⟩:=vx h h1 h2;intro u hu;simp[Value.cells]at hu;subst hu;rfl
 |view d gg off len=>obtain⟨h1,e,xs,h2⟩:=SE _ _ _ _ rfl;obtain⟨A,l,c,rfl⟩:=Mm h h1 h2;intro u hu;simp[Value.cells]at hu;subst hu;rfl|none=>exact ho.elim|fb rs=>exact ho.elim
theorem jJ{B:Nat}{T:TypeId}(hw:w.heap[B]?=some (.cells cur T (0,0)))(hs:v.cells.size=P.cellsOf t)(h0:0<P.cellsOf t)(oG:∀u∈v.cells.toList,u.oneCell'=true)(ga:k+v.cells.size<=cur.size):
  (storeVar t ⟨B,k,none⟩ v).run P w=.ok () (w.setRow B (aR cur.toList k v.cells.toList).toArray):=by
 have mK:=run_storeCells_at P B k T v.cells.toList 0 cur w hw (by simpa using ga) oG;simp only[mL]at mK;simp[storeVar,run_sizeOf hs.symm (by omega),mK,aR]
theorem kE{o:Oper}{a:Act}{w:World}{next:Act->World->Prop}{Q:Exit->Act->World->Prop}(h:(execOp a.eval o).run P w=.ok .skip w')(hn:next (a.put o.dst undef) w'):o.wp P a w next Q:=by unfold Oper.wp;rw[h];exact hn
theorem fu{vs:List Value}(h:k+vs.length<=cur.size)(j:Nat):(aR cur.toList k vs).toArray.getD j undef=if j<k then cur.getD j undef else if j<k+vs.length then vs.getD (j-k) undef else cur.getD j undef:=by
 simp only[jI,FQ,xf];rw[cw (by simpa using h)];split
 ·simp
 ·split
  ·rfl
  ·simp
theorem iZ{p x:Operand}(ho:o.op=.store t p x)(ax:aJ n o=true)(kg:o.dst=none){cs vs:List br}(hp:s.ev p=.loc d gg sz i k)(hg:gg=s.g d)(hb:s.b d=some (.cells cs))
  (hx:eZ (s.ev x)=some vs) (ha:alive s (s.ev x)) (h1:vC (s.ev x)) (h0:0<P.cellsOf t) (hl:vs.length=P.cellsOf t) (ga:i*sz+k+vs.length<=cs.length)
  (hK:K {s with b:=bF s.b d (some (.cells (aR cs (i*sz+k) vs)))}):Sound P E w0 I0 n o s K:=by
 rintro a w ⟨I,be,hR⟩ Qc;have hq:=au ax (x:=p) (by simp[ho,Op.operands]) hR;have Ca:=au ax (x:=x) (by simp[ho,Op.operands]) hR;rw[hp]at hq;obtain⟨B,hB,e1⟩:=vx hq hg (by simp[hb]);have adI:∀d gg sz i k,s.ev x=.loc d gg sz i k->gg=s.g d/\s.b d≠none:=λd gg sz i k e=>by rw[e]at ha;exact ha
 have adJ:∀d gg off len,s.ev x=.view d gg off len->gg=s.g d/\∃e xs,s.b d=some (.aT e xs):=λd gg off len e=>by rw[e]at ha;exact ha
 obtain⟨sP,vD⟩:=lE Ca hx adI adJ;have oG:=rC Ca h1 adI adJ;obtain⟨B',cur,T,cZ,hw,jl,SH⟩:=hR.boxes d _ hb;rw[hB]at cZ;injection cZ with cZ;subst cZ;have pc:i*sz+k+(a.eval x).cells.size<=cur.size:=by omega
 have cu:=jJ (P:=P) (t:=t) hw (by rw[sP,hl]) h0 oG pc;have dh:(aR cur.toList (i*sz+k) (a.eval x).cells.toList).toArray.size=cur.size:=by rw[mN,bw (by simpa using pc)];simp
 obtain⟨hkc,hkd⟩:=hR.xe d _ (.cells (aR cs (i*sz+k) vs)) B hb hB cur _ T hw dh (.inl ⟨_,_,rfl,rfl⟩);refine kE (w':=w.setRow B (aR cur.toList (i*sz+k) (a.eval x).cells.toList).toArray) ?_ ⟨_,⟨I,be,?_⟩,hK⟩
 ·simp[execOp,ho,e1,Instr.storeAt,Instr.sureAddr,cu]
 ·rw[kg];refine hR.gR d _ (.cells (aR cs (i*sz+k) vs)) B hb hB cur _ T hw dh (.inl ⟨_,_,rfl,rfl⟩) ⟨B,_,T,hB,o7 w B cur _ T (0,0) hw,by rw[dh,bw ga,jl],λj c hj=>?_⟩;refine bD.dN (w:=w) (I:=I) (be:=be) (b:=s.b) (g:=s.g) hkc hkd ?_;rw[cw ga]at hj;rw[fu (by simpa using pc)];have SI:(a.eval x).cells.toList.length=vs.length:=by simpa using sP
  rw[SI];split at hj
  ·rename_i h2;rw[ap h2];exact SH j c hj
  ·rename_i h2;rw[ai h2];split at hj
   ·rename_i h3;rw[ap h3];have:=vD _ c hj;simpa[xf]using this
   ·rename_i h3;rw[ai h3];exact SH j c hj
def eX(x:AV)(k:Nat)(vs:List AV):AV:=
 match x with
 |.agg cs=>.agg (aR cs k vs)|_=>vs.headD x
theorem si{p x:Operand}(ho:o.op=.store t p x)(ax:aJ n o=true)(kg:o.dst=none){v y:AV}(hp:s.ev p=.loc d gg sz i k)(hg:gg=s.g d)(hb:s.b d=some (.aT e xs))
  (dh:sz=P.cellsOf e) (hx:bh (s.ev x)=some v) (Qy:v.wf) (h0:0<P.cellsOf t) (hl:v.cells.length=P.cellsOf t) (hy:xs[i]?=some y) (ga:k+v.cells.length<=y.cells.length) (Mn:y.isAgg=true∨(k=0/\v.isAgg=false))
  (hK:K {s with b:=bF s.b d (some (.aT e (xs.set i (eX y k v.cells))))}):Sound P E w0 I0 n o s K:=by
 rintro a w ⟨I,be,hR⟩ Qc;have hq:=au ax (x:=p) (by simp[ho,Op.operands]) hR;have Ca:=c9 (au ax (x:=x) (by simp[ho,Op.operands]) hR) hx;rw[hp]at hq;obtain⟨B,hB,e1⟩:=vx hq hg (by simp[hb]);have jn:(a.eval x).cells.size=v.cells.length/\(∀u∈(a.eval x).cells.toList,u.oneCell'=true)/\∀(j:Nat)(c:AV),v.cells[j]?=some c->cj w I ((a.eval x).cells.getD j undef) c:=by have h1:=lE (P:=P) (be:=be) (b:=s.b) (g:=s.g) (r:=.val v) (cs:=v.cells.map .val) Ca rfl (λ_ _ _ _ _ h=>by cases h) (λ_ _ _ _ h=>by cases h);have h2:=rC (P:=P) (be:=be) (b:=s.b) (g:=s.g) (r:=.val v) Ca Qy (λ_ _ _ _ _ h=>by cases h) (λ_ _ _ _ h=>by cases h);refine⟨by simpa using h1.1,h2,λj c hc=>?_⟩;have:=h1.2 j (.val c) (by simp[hc]);exact this
 obtain⟨sP,vD,Sf⟩:=jn;obtain⟨wX,qD,pH,sg⟩:=hR.boxes d _ hb;simp only[hB]at sg;obtain⟨cur,cap,hw,jl,E1,Hs,dH⟩:=sg;have ui:i<xs.length:=(aV.1 hy).1;have hyl:=(pH i y hy).1;have vE:(i+1)*P.cellsOf e<=cap*P.cellsOf e:=fK _ (by omega);rw[ew,kF]at vE;subst dh;have pc:i*P.cellsOf e+k+(a.eval x).cells.size<=cur.size:=by omega
 have cu:=jJ (P:=P) (t:=t) hw (by rw[sP,hl]) h0 vD pc;have Mp:(aR cur.toList (i*P.cellsOf e+k) (a.eval x).cells.toList).toArray.size=cur.size:=by rw[mN,bw (by simpa using pc)];simp
 have hlen:(xs.set i (eX y k v.cells)).length=xs.length:=by simp
 obtain⟨hkc,hkd⟩:=hR.xe d _ (.aT e (xs.set i (eX y k v.cells))) B hb hB cur _ e hw Mp (.inr ⟨_,_,_,rfl,rfl,hlen⟩);have jV:(eX y k v.cells).cells=aR y.cells k v.cells/\(eX y k v.cells).wf:=by
  cases hyc:y with
  |agg cs=>
   have Mq:=(pH i y hy).2;rw[hyc]at Mq ga;refine⟨rfl,λc hc=>?_⟩;simp only[eX,AV.cells,aR,dt]at hc;rcases hc with(hc|hc)|hc
   ·exact Mq c (CF hc)
   ·exact Qy c hc
   ·exact Mq c (Mr hc)
  |_=>
   rw[hyc]at Mn ga;obtain⟨rfl,hva⟩:=Mn.resolve_left (by simp[AV.isAgg]);have:v.cells=[v]:=by cases v<;>first|rfl|(simp[AV.isAgg]at hva)
   rw[this];refine⟨?_,?_⟩
   ·cases v<;>first|rfl|(simp[AV.isAgg]at hva)
   ·simpa[eX]using Qy
 refine kE (w':=w.setRow B (aR cur.toList (i*P.cellsOf e+k) (a.eval x).cells.toList).toArray) ?_ ⟨_,⟨I,be,?_⟩,hK⟩
 ·simp[execOp,ho,e1,Instr.storeAt,Instr.sureAddr,cu]
 ·rw[kg];refine hR.gR d _ (.aT e (xs.set i (eX y k v.cells))) B hb hB cur _ e hw Mp (.inr ⟨_,_,_,rfl,rfl,hlen⟩) ⟨wX,by rw[hlen];exact qD,λi2 x2 h2=>?_,?_⟩
  ·rw[uW]at h2;split at h2
   ·rename_i h3;subst h3;try rw[ap ui]at h2
    injection h2 with h2;subst h2;refine⟨?_,jV.2⟩;rw[jV.1,bw ga,hyl]
   ·exact pH _ _ h2
  ·simp only[hB];refine⟨_,cap,o7 w B cur _ e (0,0) hw,by rw[Mp,jl],E1,by rw[hlen];exact Hs,λi2 j x2 c h2 h3=>?_⟩;refine cj.mono (w:=w) (I:=I) hkc ?_;rw[fu (by simpa using pc)];have SI:(a.eval x).cells.toList.length=v.cells.length:=by simpa using sP
   rw[SI];rw[uW]at h2;split at h2
   ·rename_i h4;subst h4;try rw[ap ui]at h2
    injection h2 with h2;subst h2;rw[jV.1,cw ga]at h3;by_cases q1:j<k
    ·rw[ap (by omega)];rw[ap q1]at h3;exact dH i j y c hy h3
    ·rw[ai q1]at h3;rw[ai (by omega)];by_cases q2:j<k+v.cells.length
     ·rw[ap q2]at h3;rw[ap (by omega)];have:=Sf _ c h3;have e2:i*P.cellsOf e+j-(i*P.cellsOf e+k)=j-k:=by omega
      rw[e2];simpa[xf]using this
     ·rw[ai q2]at h3;rw[ai (by omega)];exact dH i j y c hy h3
   ·rename_i h4;have pM:j<P.cellsOf e:=by rw[<-(pH _ _ h2).1];exact (aV.1 h3).1
    have hr:=dH i2 j x2 c h2 h3;rcases Nat.lt_or_gt_of_ne h4 with h5|h5
    ·have:(i+1)*P.cellsOf e<=i2*P.cellsOf e:=fK _ h5;rw[ew,kF]at this;rw[ai (by omega),ai (by omega)];exact hr
    ·have:(i2+1)*P.cellsOf e<=i*P.cellsOf e:=fK _ h5;rw[ew,kF]at this;rw[ap (by omega)];exact hr
end
def kG:Value->AV
 |.agg cs=>.agg (cs.toList.map dq)|v=>dq v
theorem yZ(h:v.oneCell'=true):(dq v).isAgg=false:=by unfold dq;split<;>rfl
theorem BM(v:Value):(dq v).cells=[dq v]:=by unfold dq;split<;>rfl
theorem lI(h:(z.cells.all λv=>v.oneCell')=true):(kG z).cells=z.cells.toList.map dq/\(kG z).wf:=by
 have hh:∀v∈z.cells,v.oneCell'=true:=λv hv=>rq.1 h v hv;have key:(kG z).cells=z.cells.toList.map dq:=by
  cases z<;>first
   |exact BM _
   |rfl
 refine⟨key,λc hc=>?_⟩;rw[key]at hc;obtain⟨v,hv,rfl⟩:=cK.1 hc;exact yZ (hh v (by simpa using hv))
section
variable{P:Program}{E:Env}{w0:World}{I0:Cells}{n:Nat}{o:Oper}{s:St}{K:St->Prop}{a:Act}{w:World}{I:Cells}{be:Nat->Option Nat}{b:Nat->Option Bx}{g:Nat->Nat}
theorem JK(h:(z.cells.all λv=>v.oneCell')=true)(j:Nat)(hc:(kG z).cells[j]?=some c):cj w I (z.cells.getD j undef) c:=by rw[(lI h).1,dd,ck]at hc;obtain⟨v,hv,rfl⟩:=hc;rw[iW]at hv;have hm:=rq.1 h v (nB hv);simp only[jI,hv,dB];exact ni hm
theorem sj{x:Operand}(ho:o.op=.makeSlice t x y)(ax:aJ n o=true)(hd:o.dst=some d)(ht:P.underlying t=some (.slice e)){i:TypeInfo}(hi:P.info? e=some i)(hz:i.zero=some z)(Fg:z.cells.size=i.size)(AE:(z.cells.all λv=>v.oneCell')=true)(hs:0<P.cellsOf e)
  {k:IntKind} {m:Int} (hx:s.ev x=.val (.fl (.int k m))) (hy:s.ev y=.val (.fl (.int k' m))) (h0:0<=m) (yU:m.toNat<=maxLen) (mM:m.toNat*P.bytesOf e<=281474976710656)
  (hK:K (s.bP d e (List.replicate m.toNat (kG z)))):Sound P E w0 I0 n o s K:=by
 rintro a w ⟨I,be,hR⟩ Qc;have h1:=au ax (x:=x) (by simp[ho,Op.operands]) hR;have h2:=au ax (x:=y) (by simp[ho,Op.operands]) hR;rw[hx]at h1;rw[hy]at h2;have e1:=bR h1;have e2:=bR h2;have Wt:(i.bytes:Int)*m<=281474976710656:=by
  rw[vz hi]at mM;have h3:((m.toNat*i.bytes:Nat):Int)<=281474976710656:=by omega
  rw[Int.natCast_mul,Int.toNat_of_nonneg h0]at h3;rwa[Int.mul_comm]
 have hr:=run_make (P:=P) w t e i z ht hi hz k k' m m h0 (Int.le_refl _) Wt (by simp only[maxLen]at yU;omega);refine eA (v:=.slice (some ⟨w.heap.size,0,none⟩) m.toNat m.toNat) (w':=w.alloc (.cells (madeCells z.cells (m.toNat*i.size)) e)) (by simp[execOp,ho,e1,e2,hr]) ⟨_,⟨I,bF be d (some w.heap.size),?_⟩,hK⟩;rw[hd];have dh:=uj hi;have hza:=lI AE;have sk:(kG z).cells.length=P.cellsOf e:=by rw[hza.1,dh];simp[Fg]
 have:=hR.bP (w':=w.alloc (.cells (madeCells z.cells (m.toNat*i.size)) e)) d rfl rfl rfl rfl (List.replicate m.toNat (kG z)) hs (cap:=m.toNat) (by rw[size_madeCells,dh]) yU (by simp)
  (λx hx=>by rw[List.eq_of_mem_replicate hx];exact ⟨sk,hza.2⟩)
  (λi2 j x c h3 h4=>by
    have hx:=List.eq_of_mem_replicate (bC h3);subst hx;have ui:i2<m.toNat:=by simpa using(aV.1 h3).1
    have pM:j<P.cellsOf e:=by rw[<-sk];exact (aV.1 h4).1
    have eK:=ru ui (aP _) pM;rw[dh]at eK pM⊢;have e3:(madeCells z.cells (m.toNat*i.size)).getD (i2*i.size+j) undef=z.cells.getD j undef:=by
     have e4:(i2*i.size+j)%z.cells.size=j:=by rw[Fg,vy,Nat.mul_add_mod,Nat.mod_eq_of_lt pM]
     simp only[madeCells,jI,Array.getElem?_map,Array.getElem?_range,ap eK,bQ,dB];rw[e4];have Js:j<z.cells.size:=by omega
     simp[Js]
    rw[e3];exact JK AE j h4)
 simpa using this
theorem AF(v:Array Value)(off:Nat):∀(cells:Array Value)(l:List (Value×Nat))(k:Nat),(∀(q:Nat)(x:Value×Nat),l[q]?=some x->x.2=k+q)->off+k+l.length<=cells.size->
  (l.foldl (λcs(p:Value×Nat)=>cs.setIfInBounds (off+p.2) p.1) cells).toList=aR cells.toList (off+k) (l.map (·.1))
 |cells,[],k,_,_=>by simp[aR]|cells,x::l,k,h,hl=>by
  have h0:x.2=k:=by have:=h 0 x rfl;omega
  have ih:=AF v off (cells.setIfInBounds (off+k) x.1) l (k+1) (λq y hy=>by have:=h (q+1) y (by simpa using hy);omega) (by simp at hl⊢;omega);simp only[AG,h0];rw[ih];simp only[dE]at hl;apply uX;intro q;rw[cw (by simp;omega),cw (by simp;omega)];simp only[eD,dE,cM,Array.toList_setIfInBounds];by_cases q1:q<off+k
  ·rw[ap (by omega),ap q1,JL (by omega)]
  ·by_cases q2:q=off+k
   ·subst q2;rw[ap (by omega),ai (by omega),ap (by omega)];rw[Ot (by simp;omega)];simp
   ·rw[ai (by omega),ai q1];by_cases q3:q<off+k+(l.length+1)
    ·rw[ap (by omega),ap q3];obtain⟨m,hm⟩:∃m,q-(off+k)=m+1:=⟨q-(off+k)-1,by omega⟩
     rw[hm,SJ];congr 1;omega
    ·rw[ai (by omega),ai q3,JL (by omega)]
theorem SK(cells v:Array Value)(off:Nat)(h:off+v.size<=cells.size):
  (v.zipIdx.foldl (λcs(x:Value×Nat)=>cs.setIfInBounds (off+x.2) x.1) cells).toList=aR cells.toList off v.toList:=by
 rw[<-aaN];have:=AF v off cells v.zipIdx.toList 0 (λq x hx=>by simp only[Array.toList_zipIdx,List.getElem?_zipIdx,ck]at hx;obtain⟨y,_,rfl⟩:=hx;simp) (by simpa using h);rw[this];congr 1;simp
theorem y6(place:Nat->Option (Nat×Nat)):∀(parts:List (Nat×Value))(cells:Array Value)(vF:List Nat),vF.length=parts.length->
  (∀(q:Nat)(p:Nat×Value)(off:Nat),parts[q]?=some p->vF[q]?=some off->place p.1=some (off,p.2.cells.size)/\off+p.2.cells.size<=cells.size)->
  ∃cs:Array Value,Instr.fill place cells parts=some cs/\cs.toList=(parts.zip vF).foldl (λl x=>aR l x.2 x.1.2.cells.toList) cells.toList
 |[],cells,vF,hl,_=>⟨cells,rfl,by simp⟩|(i,v)::parts,cells,[],hl,_=>by simp at hl
 |(i,v)::parts,cells,off::vF,hl,h=>by
  obtain⟨h1,h2⟩:=h 0 (i,v) off rfl rfl;simp only at h1 h2;have hw:=SK cells v.cells off h2;have dh:(v.cells.zipIdx.foldl (λcs(x:Value×Nat)=>cs.setIfInBounds (off+x.2) x.1) cells).size=cells.size:=by rw[<-pN,hw,bw (by simpa using h2)];simp
  obtain⟨cs,jl,E4⟩:=y6 place parts (v.cells.zipIdx.foldl (λcs(x:Value×Nat)=>cs.setIfInBounds (off+x.2) x.1) cells) vF (by simpa using hl) (λq p SL hp ho=>by have:=h (q+1) p SL (by simpa using hp) (by simpa using ho);rw[dh];exact this);refine⟨cs,?_,?_⟩
  ·unfold Instr.fill;simp only[h1];rw[ai (by simp;omega)];exact jl
  ·rw[E4,hw];rfl
end
def dO(P:Program)(t:TypeId):Option TypeId:=
 match P.underlying t with
 |some (.slice e)=>some e|_=>none
theorem dv(h:dO P t=some e):P.underlying t=some (.slice e):=by unfold dO at h;split at h<;>simp_all
def placesOf(P:Program)(t:TypeId):Option (List (Nat×Nat)):=
 match P.underlying t with
 |some (.struct fs)=>fs.toList.mapM λf=>(P.info? f.type).map λi=>(f.offset,i.size)|some (.array n e)=>if 0<P.cellsOf e then some ((List.range n).map λj=>(j*P.cellsOf e,P.cellsOf e))else none
 |_=>none
def lJ(P:Program)(t:TypeId)(f:Nat):Option (Nat×TypeId):=
 match P.underlying t with
 |some (.struct fs)=>(fs[f]?).bind λfd=>if 0<P.cellsOf fd.type then some (fd.offset,fd.type)else none|_=>none
theorem rD{f:Nat}(h:lJ P t f=some (off,ft)):∃fs fd,P.underlying t=some (.struct fs)/\fs[f]?=some fd/\fd.offset=off/\fd.type=ft/\0<P.cellsOf fd.type:=by
 unfold lJ at h;split at h
 ·rename_i fs hu;cases hf:fs[f]? with
  |none=>simp[hf]at h|some fd=>
   simp only[hf,aU]at h;split at h
   ·rename_i hc;simp only[ah,aS]at h;exact⟨fs,fd,hu,hf,h.1,h.2,hc⟩
   ·cases h
 ·cases h
def zeroOf(P:Program)(t:TypeId):Option AV:=
 match P.info? t with
 |some i=>match i.zero with
  |some z=>if(z.cells.all λv=>v.oneCell')&&z.cells.size==i.size then some (kG z)else none|none=>none
 |none=>none
theorem kT{x:AV}(h:zeroOf P t=some x):∃i z,P.info? t=some i/\i.zero=some z/\(z.cells.all λv=>v.oneCell')=true/\z.cells.size=i.size/\x=kG z:=by
 unfold zeroOf at h;cases hi:P.info? t with
 |none=>simp[hi]at h|some i=>
  cases hz:i.zero with
  |none=>simp[hi,hz]at h|some z=>
   simp only[hi,hz]at h;split at h
   ·rename_i hc;simp only[aD,fc]at hc;injection h with h;exact⟨i,z,rfl,hz,hc.1,hc.2,h.symm⟩
   ·cases h
def nV(P:Program)(e:TypeId):Bool:=decide (0<P.cellsOf e)&&(zeroOf P e).isSome
theorem sQ(h:nV P e=true):xk P e:=by simp only[nV,aD,az]at h;obtain⟨x,hx⟩:=CG.1 h.2;obtain⟨i,z,h1,h2,_,h3,_⟩:=kT hx;exact⟨h.1,i,z,h1,h2,h3⟩
section
variable{P:Program}{E:Env}{w0:World}{I0:Cells}{n:Nat}{o:Oper}{s:St}{K:St->Prop}{a:Act}{w:World}{I:Cells}{be:Nat->Option Nat}{b:Nat->Option Bx}{g:Nat->Nat}
def mm(w:World)(I:Cells)(vs:List Value)(cs:List AV):Prop:=vs.length=cs.length/\∀(j:Nat)(v:Value)(c:AV),vs[j]?=some v->cs[j]?=some c->cj w I v c
theorem mm.write {vs us:List Value} {cs ds:List AV} (h:mm w I vs cs) (h':mm w I us ds) (hk:k+us.length<=vs.length):mm w I (aR vs k us) (aR cs k ds):=by
 have fM:k+ds.length<=cs.length:=by have:=h.1;have:=h'.1;omega
 refine⟨by rw[bw hk,bw fM,h.1],λj v c hv hc=>?_⟩;rw[cw hk]at hv;rw[cw fM,<-h'.1]at hc;split at hv
 ·rename_i q;rw[ap q]at hc;exact h.2 j v c hv hc
 ·rename_i q;rw[ai q]at hc;split at hv
  ·rename_i q2;rw[ap q2]at hc;exact h'.2 _ v c hv hc
  ·rename_i q2;rw[ai q2]at hc;exact h.2 j v c hv hc
theorem um{x:AV}(h:cj w I v x):mm w I v.cells.toList x.cells:=by have h1:=lE (P:=default) (be:=λ_=>none) (b:=λ_=>none) (g:=λ_=>0) (r:=.val x) (cs:=x.cells.map .val) h rfl (λ_ _ _ _ _ h=>by cases h) (λ_ _ _ _ h=>by cases h);refine⟨by simpa using h1.1,λj u c hu hc=>?_⟩;have:=h1.2 j (.val c) (by simp[hc]);rw[iW]at hu;simpa[hu,bD]using this
theorem AH{α β:Type}:∀(ps:List (α×β)),(ps.map (·.1)).zip (ps.map (·.2))=ps
 |[]=>rfl|p::ps=>by simp[AH ps]
def cW(cs:List AV):List (Nat×AV)->List AV
 |[]=>cs|(off,x)::rest=>cW (aR cs off x.cells) rest
theorem sR:∀(parts:List (Nat×Value))(vF:List Nat)(xs:List AV)(vs:List Value)(cs:List AV),mm w I vs cs->vF.length=parts.length->xs.length=parts.length->
  (∀(q:Nat)(p:Nat×Value)(x:AV),parts[q]?=some p->xs[q]?=some x->cj w I p.2 x)->(∀(q:Nat)(off:Nat)(p:Nat×Value),vF[q]?=some off->parts[q]?=some p->off+p.2.cells.size<=vs.length)->
  mm w I ((parts.zip vF).foldl (λl x=>aR l x.2 x.1.2.cells.toList) vs) (cW cs (vF.zip xs))
 |[],[],[],vs,cs,h,_,_,_,_=>h|p::parts,off::vF,x::xs,vs,cs,h,h1,h2,h3,h4=>by have hp:=h3 0 p x rfl rfl;have hf:=h4 0 off p rfl rfl;have hw:=h.write (um hp) (k:=off) (by rw[pN];exact hf);have hl:(aR vs off p.2.cells.toList).length=vs.length:=bw (by rw[pN];exact hf);exact sR parts vF xs _ _ hw (by simpa using h1) (by simpa using h2) (λq p' x' sS bV=>h3 (q+1) p' x' (by simpa using sS) (by simpa using bV)) (λq SL p' Jr sS=>by rw[hl];exact h4 (q+1) SL p' (by simpa using Jr) (by simpa using sS))
 |p::parts,[],xs,_,_,_,h1,_,_,_=>by simp at h1|p::parts,off::vF,[],_,_,_,_,h2,_,_=>by simp at h2
 |[],off::vF,xs,_,_,_,h1,_,_,_=>by simp at h1|[],[],x::xs,_,_,_,_,h2,_,_=>by simp at h2
def partsOf(s:St)(pl:List (Nat×Nat)):List (Nat×Operand)->Option (List (Nat×AV))
 |[]=>some []|(i,x)::rest=>match pl[i]?,bh (s.ev x),partsOf s pl rest with
  |some (off,sz),some v,some r=>if v.cells.length=sz then some ((off,v)::r)else none|_,_,_=>none
theorem xl{pl:List (Nat×Nat)}:∀{ps:List (Nat×Operand)}{r:List (Nat×AV)},partsOf s pl ps=some r->r.length=ps.length/\
  ∀(q:Nat)(p:Nat×Operand)(y:Nat×AV),ps[q]?=some p->r[q]?=some y->pl[p.1]?=some (y.1,y.2.cells.length)/\bh (s.ev p.2)=some y.2
 |[],r,h=>by simp[partsOf]at h;subst h;simp|(i,x)::rest,r,h=>by
  simp only[partsOf]at h;split at h
  ·rename_i off sz v r' h1 h2 h3;split at h
   ·rename_i hc;injection h with h;subst h;obtain⟨hl,hq⟩:=xl h3;refine⟨by simp[hl],λq p y hp hy=>?_⟩;cases q with
    |zero=>simp at hp hy;subst hp hy;exact ⟨by rw[hc];exact h1,h2⟩|succ q=>exact hq q p y (by simpa using hp) (by simpa using hy)
   ·cases h
  ·cases h
def JM(v:Value)(c:AV):Prop:=c=dq v∨(v=.slice none 0 0/\c=.emp)
theorem FU{w:World}{I:Cells}(h:v.oneCell'=true)(hc:JM v c):cj w I v c:=by
 rcases hc with rfl|⟨rfl,rfl⟩
 ·exact ni h
 ·exact .emp none
def ZC(P:Program)(t:TypeId)(zc:List AV):Prop:=∃i zv,P.info? t=some i/\i.zero=some zv/\(zv.cells.all λv=>v.oneCell')=true/\zv.cells.size=i.size/\zc.length=zv.cells.size/\∀(j:Nat)(v:Value)(c:AV),zv.cells[j]?=some v->zc[j]?=some c->JM v c
theorem ZC.WV {P:Program} {z:AV} (h:zeroOf P t=some z):ZC P t z.cells:=by obtain⟨i,zv,h1,h2,h3,h4,rfl⟩:=kT h;refine⟨i,zv,h1,h2,h3,h4,by rw[(lI h3).1];simp,λj v c hv hc=>?_⟩;rw[(lI h3).1,dd,iW,hv]at hc;simp only[bQ,ah]at hc;exact .inl hc.symm
theorem CH(f g:Nat->Option (Nat×Nat)):∀(parts:List (Nat×Value))(cells:Array Value),(∀p∈parts,f p.1=g p.1)->Instr.fill f cells parts=Instr.fill g cells parts
 |[],cells,_=>rfl|(i,v)::parts,cells,h=>by have h0:=h (i,v) (by simp);have h1:=λcells=>CH f g parts cells λp hp=>h p (by simp[hp]);simp only at h0;unfold Instr.fill;simp only[h0,h1]
theorem pO(ho:o.op=.build t parts)(ax:aJ n o=true){pl:List (Nat×Nat)}(xm:placesOf P t=some pl){zc:List AV}(hz:ZC P t zc)(adK:(pl.all λp=>decide (p.1+p.2<=zc.length))=true)
  {ps:List (Nat×AV)} (hps:partsOf s pl parts.toList=some ps):dm P E w0 I0 n o s (.val (.agg (cW zc ps))):=by
 intro a w I be hR;obtain⟨i,zv,hi,Si,AE,Fg,hzl,hzr⟩:=hz;obtain⟨hl,yP⟩:=xl hps;let ie:List (Nat×Value):=parts.toList.map λp=>(p.1,a.eval p.2)
 have ku:∀(q:Nat)(p:Nat×Operand)(y:Nat×AV),parts.toList[q]?=some p->ps[q]?=some y->cj w I (a.eval p.2) y.2:=λq p y hp hy=>c9 (au ax (x:=p.2) (by simp only[ho,Op.operands,y7,cK];simpa using⟨p.1,nB (by simpa using hp)⟩) hR) (yP q p y hp hy).2;have sk:∀{v:Value}{x:AV},cj w I v x->v.cells.size=x.cells.length:=λh=>by simpa using(um h).1
 have ga:∀(p:Nat×Nat),p∈pl->p.1+p.2<=zv.cells.size:=λp hp=>by have:=cJ.1 adK p hp;simp only[az]at this;omega
 have Ms:∀(q:Nat)(p:Nat×Value)(off:Nat),ie[q]?=some p->(ps.map (·.1))[q]?=some off->pl[p.1]?=some (off,p.2.cells.size)/\off+p.2.cells.size<=zv.cells.size:=by intro q p off hp uS;simp only[ie,dd,ck]at hp uS;obtain⟨p0,uq,rfl⟩:=hp;obtain⟨y,hy,rfl⟩:=uS;have h1:=(yP q p0 y uq hy).1;have h2:=sk (ku q p0 y uq hy);simp only;rw[h2];exact⟨h1,ga _ (bC h1)⟩
 obtain⟨cs,jl,WW⟩:=y6 (λi=>pl[i]?) ie zv.cells (ps.map (·.1)) (by simp[ie,hl]) Ms;have hz0:mm w I zv.cells.toList zc:=⟨by simpa using hzl.symm,λj v c hv hc=>by rw[iW]at hv;exact FU (rq.1 AE v (nB hv)) (hzr j v c hv hc)⟩
 have hwr:=sR ie (ps.map (·.1)) (ps.map (·.2)) zv.cells.toList zc hz0 (by simp[ie,hl]) (by simp[ie,hl])
  (λq p x hp hx=>by simp only[ie,dd,ck]at hp hx;obtain⟨p0,uq,rfl⟩:=hp;obtain⟨y,hy,rfl⟩:=hx;exact ku q p0 y uq hy)
  (λq off p Jr hp=>by have:=(Ms q p off hp Jr).2;simpa using this)
 rw[AH,<-WW]at hwr;have hcp:(parts.map λ(p:Nat×Operand)=>(p.1,a.eval p.2)).toList=ie:=by simp[ie]
 refine⟨.agg cs,?_,?_⟩
 ·unfold placesOf at xm;cases hu:P.underlying t with
  |none=>simp[hu]at xm|some du=>
   cases du<;>simp only[hu,reduceCtorEq]at xm
   ·rename_i N e;split at xm
    ·rename_i hs;simp only[ah]at xm;subst xm;have SM:Instr.fill (λi=>some (i*P.cellsOf e,P.cellsOf e)) zv.cells ie=some cs:=by
      rw[<-jl];refine CH _ _ ie zv.cells λp hp=>?_;obtain⟨q,hq⟩:=lK.1 hp;have eK:q<(ps.map (·.1)).length:=by have:=(aV.1 hq).1;simp only[ie,cM]at this⊢;omega
      have:=(Ms q p _ hq (cq eK)).1;simp only[dd,ck]at this;obtain⟨j,hj,_⟩:=this;have Js:=(aV.1 hj)
      obtain⟨h7,h8⟩:=Js;simp only[List.getElem_range]at h8;simp only[List.length_range]at h7;simp[h7]
     simp only[execOp,ho,Instr.build,bJ,zeroValue,typeInfo,run_program,bX,hi,Si,dr hu,b9,run_sizeOf (P:=P) rfl hs,hcp];rw[SM];rfl
    ·cases xm
   ·rename_i fs;have hrp:=run_places (P:=P) w fs.toList pl xm;have hmp:(fs.mapM λf=>(do pure (f.offset,<-sizeOf f.type):Sem (Nat×Nat))).run P w=.ok pl.toArray w:=by rw[Array.mapM_eq_mapM_toList,Sem.run_map];have:(fs.toList.mapM λf=>(do pure (f.offset,<-sizeOf f.type):Sem (Nat×Nat))).run P w=.ok pl w:=hrp;rw[this];rfl
    simp only[execOp,ho,Instr.build,bJ,zeroValue,typeInfo,run_program,bX,hi,Si,dr hu,b9];rw[hmp];simp only[bX,hcp];have Qz:(λx:Nat=>pl.toArray[x]?)=λi:Nat=>pl[i]?:=by funext i;simp
    rw[Qz,jl];rfl
 ·refine .agg cs _ (by simpa using hwr.1) λj c hc=>?_;have hj:j<cs.size:=by have:=hwr.1;have h3:=(aV.1 hc).1;simp at this;omega
  have:=hwr.2 j cs[j] c (by simp[hj]) hc;simpa[hj]using this
end
section
variable{P:Program}{E:Env}{w0:World}{I0:Cells}{n:Nat}{o:Oper}{s:St}{K:St->Prop}{a:Act}{w:World}{I:Cells}{be:Nat->Option Nat}{b:Nat->Option Bx}{g:Nat->Nat}
def bK(s:St):List Operand->Option (List AV)
 |[]=>some []|x::rest=>match bh (s.ev x),bK s rest with
  |some v,some r=>some (v::r)|_,_=>none
theorem nn:∀{ps:List Operand}{r:List AV},bK s ps=some r->r.length=ps.length/\∀(q:Nat)(p:Operand)(y:AV),ps[q]?=some p->r[q]?=some y->bh (s.ev p)=some y
 |[],r,h=>by simp[bK]at h;subst h;simp|x::rest,r,h=>by
  simp only[bK]at h;split at h
  ·rename_i v r' h1 h2;injection h with h;subst h;obtain⟨hl,hq⟩:=nn h2;refine⟨by simp[hl],λq p y hp hy=>?_⟩;cases q with
   |zero=>simp at hp hy;subst hp hy;exact h1|succ q=>exact hq q p y (by simpa using hp) (by simpa using hy)
  ·cases h
theorem Mt:∀(vs:List (List Value))(k:Nat)(cur:List Value),(∀v∈vs,v.length=sz)->(k+vs.length)*sz<=cur.length->
  ∀(i j:Nat)(v:List Value),vs[i]?=some v->j<sz->((vs.zipIdx k).foldl (λl x=>aR l (x.2*sz) x.1) cur)[(k+i)*sz+j]?=v[j]?:=by
 have dN:∀(vs:List (List Value))(k:Nat)(cur:List Value),(∀v∈vs,v.length=sz)->(k+vs.length)*sz<=cur.length->∀q,q<k*sz->((vs.zipIdx k).foldl (λl x=>aR l (x.2*sz) x.1) cur)[q]?=cur[q]?:=by
  intro vs;induction vs with
  |nil=>intro k cur _ _ q _;rfl|cons v vs ih=>
   intro k cur hv hl q hq;have SI:=hv v (by simp);have h1:(k+1)*sz<=(k+(v::vs).length)*sz:=fK _ (by rw[dE];omega);rw[ew k 1,kF]at h1;have ga:k*sz+v.length<=cur.length:=by omega
   simp only[List.zipIdx_cons,AG];rw[ih (k+1) _ (λu hu=>hv u (by simp[hu])) (by rw[bw ga];simpa[iU,jo 1]using hl) q (by rw[ew];omega),cw ga,ap hq]
 intro vs;induction vs with
 |nil=>intro k cur _ _ i j v h;simp at h|cons u vs ih=>
  intro k cur hv hl i j v h hj;have hul:=hv u (by simp);have h1:(k+1)*sz<=(k+(u::vs).length)*sz:=fK _ (by rw[dE];omega);rw[ew k 1,kF]at h1;have ga:k*sz+u.length<=cur.length:=by omega
  have jq:(k+1+vs.length)*sz<=(aR cur (k*sz) u).length:=by rw[bw ga];simpa[iU,jo 1]using hl
  simp only[List.zipIdx_cons,AG];cases i with
  |zero=>simp at h;subst h;simp only[mL];rw[dN vs (k+1) _ (λu hu=>hv u (by simp[hu])) jq _ (by rw[ew];omega),cw ga,ai (by omega),ap (by omega)];congr 1;omega|succ i=>
   have:=ih (k+1) (aR cur (k*sz) u) (λu hu=>hv u (by simp[hu])) jq i j v (by simpa using h) hj;rw[<-this];congr 1;have e:k+1+i=k+(i+1):=by omega
   rw[e]
theorem mO(ho:o.op=.buildSlice t len parts)(ax:aJ n o=true)(hd:o.dst=some d)(ht:dO P t=some e)(hz:nV P e=true)
  (wY:parts.toList.map (·.1)=List.range len) (aaO:len*P.cellsOf e<=16777216) (hx:bK s (parts.toList.map (·.2))=some xs) (jk:gY P e xs) (hK:K (s.bP d e xs)):Sound P E w0 I0 n o s K:=by
 rintro a w ⟨I,be,hR⟩ Qc;obtain⟨wX,i,z,hi,Si,Fg⟩:=sQ hz;have hu:=dv ht;have dh:=uj hi;obtain⟨hl,yP⟩:=nn hx;have hlen:parts.size=len:=by have:=dK List.length wY;simpa using this
 have SA:xs.length=len:=by rw[hl];simp[hlen]
 let ie:List (Nat×Value):=parts.toList.map λp=>(p.1,a.eval p.2)
 have ku:∀(q:Nat)(p:Nat×Operand)(y:AV),parts.toList[q]?=some p->xs[q]?=some y->cj w I (a.eval p.2) y:=λq p y hp hy=>c9 (au ax (x:=p.2) (by simp only[ho,Op.operands,y7,cK];simpa using⟨p.1,nB (by simpa using hp)⟩) hR) (yP q p.2 y (by simp only[dd,hp,bQ]) hy);have sk:∀{v:Value}{x:AV},cj w I v x->v.cells.size=x.cells.length:=λh=>by simpa using(um h).1
 have JN:∀(q:Nat)(p:Nat×Operand),parts.toList[q]?=some p->p.1=q/\q<len:=by
  intro q p hp;have h1:(parts.toList.map (·.1))[q]?=some p.1:=by simp only[dd,hp,bQ]
  rw[wY]at h1;have h2:q<len:=by simpa using(aV.1 h1).1
  rw[AA h2]at h1;injection h1 with h1;exact⟨h1.symm,h2⟩
 have jl:∀(q:Nat)(p:Nat×Operand),parts.toList[q]?=some p->(a.eval p.2).cells.size=P.cellsOf e:=by intro q p hp;obtain⟨_,hq⟩:=JN q p hp;have hy:xs[q]?=some xs[q]:=cq (by omega);rw[sk (ku q p _ hp hy)];exact(jk _ (fx _)).1
 let pd:Array Value:=(Array.range (len*P.cellsOf e)).map ((if len*P.cellsOf e=0 then#[]else z.cells)[·%(if len*P.cellsOf e=0 then(#[]:Array Value)else z.cells).size]!);have Fc:pd.size=len*P.cellsOf e:=by simp[pd]
 obtain⟨cs,SM,WW⟩:=y6 (λi=>some (i*P.cellsOf e,P.cellsOf e)) ie pd (parts.toList.map λp=>p.1*P.cellsOf e) (by simp[ie]) (by intro q p off hp uS;simp only[ie,dd,ck]at hp uS;obtain⟨p0,uq,rfl⟩:=hp;obtain⟨p1,FV,rfl⟩:=uS;rw[uq]at FV;injection FV with FV;subst FV;have h1:=jl q p0 uq;obtain⟨h2,h3⟩:=JN q p0 uq;simp only;rw[h1];refine⟨rfl,?_⟩;rw[Fc,h2];have:(q+1)*P.cellsOf e<=len*P.cellsOf e:=fK _ h3;rw[ew,kF]at this;exact this);have adL:(ie.zip (parts.toList.map λp=>p.1*P.cellsOf e)).foldl (λl x=>aR l x.2 x.1.2.cells.toList) pd.toList=((parts.toList.map λp=>(a.eval p.2).cells.toList).zipIdx 0).foldl (λl x=>aR l (x.2*P.cellsOf e) x.1) pd.toList:=by
  have gen:∀(ps:List (Nat×Operand))(k:Nat)(l:List Value),(∀(q:Nat)(p:Nat×Operand),ps[q]?=some p->p.1=k+q)->
    ((ps.map λp=>(p.1,a.eval p.2)).zip (ps.map λp=>p.1*P.cellsOf e)).foldl (λl x=>aR l x.2 x.1.2.cells.toList) l=((ps.map λp=>(a.eval p.2).cells.toList).zipIdx k).foldl (λl x=>aR l (x.2*P.cellsOf e) x.1) l:=by
   intro ps;induction ps with
   |nil=>intro k l _;rfl|cons p ps ih=>intro k l h;have h0:=h 0 p rfl;simp only[eD,Mu,AG,List.zipIdx_cons];rw[h0,mL];exact ih (k+1) _ (λq p' sS=>by have:=h (q+1) p' (by simpa using sS);omega)
  exact gen parts.toList 0 pd.toList (λq p hp=>by rw[(JN q p hp).1];omega)
 have ahM:cs.size=len*P.cellsOf e:=by
  have h1:∀(l:List (List Value×Nat))(c:List Value),(∀x∈l,x.2*P.cellsOf e+x.1.length<=c.length)->(l.foldl (λl x=>aR l (x.2*P.cellsOf e) x.1) c).length=c.length:=by
   intro l;induction l with
   |nil=>intro c _;rfl|cons x l ih=>intro c h;have hx:=h x (by simp);have hw:=bw hx;simp only[AG];rw[ih _ (λy hy=>by rw[hw];exact h y (by simp[hy])),hw]
  have h2:=dK List.length WW;rw[adL,h1]at h2
  ·simpa[Fc]using h2
  ·intro x hx;obtain⟨q,hq⟩:=lK.1 hx;simp only[List.getElem?_zipIdx,dd,ck]at hq;obtain⟨_,⟨p,hp,rfl⟩,rfl⟩:=hq;obtain⟨_,h3⟩:=JN q p hp;simp only[cS,pN,Fc,jl q p hp];have:(q+1)*P.cellsOf e<=len*P.cellsOf e:=fK _ h3;rw[ew,kF]at this;exact this
 refine eA (v:=.slice (some ⟨w.heap.size,0,none⟩) len len) (w':=w.alloc (.cells cs e)) ?_ ⟨_,⟨I,bF be d (some w.heap.size),?_⟩,hK⟩
 ·have hsm:¬(len*i.size>2^24):=by rw[<-dh];omega
  have hpe:(parts.map λ(p:Nat×Operand)=>(p.1,a.eval p.2)).toList=ie:=by simp[ie]
  have y9:=SM;simp only[dh]at y9;simp only[execOp,ho,Instr.buildSlice,bJ,dr hu,bX,sizeOf,typeInfo,run_program,hi,b9,hsm,bY,hpe];by_cases h0:len*i.size=0
  ·have e1:pd=(Array.range (len*i.size)).map ((#[]:Array Value)[·%(#[]:Array Value).size]!):=by simp only[pd,dh,h0,bp]
   rw[e1]at y9;simp only[h0,bp,bJ,b9,bX]at y9⊢;rw[y9];simp[newRow]
  ·have e1:pd=(Array.range (len*i.size)).map (z.cells[·%z.cells.size]!):=by simp only[pd,dh,h0,bY]
   rw[e1]at y9;simp only[h0,bY,bJ,zeroValue,typeInfo,run_program,bX,hi,Si,b9];rw[y9];simp[newRow]
 ·rw[hd];have jd:=hR.bP (w':=w.alloc (.cells cs e)) d rfl rfl rfl rfl xs wX (cap:=len) ahM (by simp only[maxLen];have:len<=len*P.cellsOf e:=Nat.le_mul_of_pos_right _ wX;omega) (by omega) jk (λi2 j x c h1 h2=>by
   have ui:i2<len:=by rw[<-SA];exact (aV.1 h1).1
   have pM:j<P.cellsOf e:=by rw[<-(jk x (bC h1)).1];exact (aV.1 h2).1
   obtain⟨pp,hpe⟩:∃p,parts.toList[i2]?=some p:=⟨_,cq (by simp[hlen,ui])⟩
   have hr:=ku i2 _ x hpe h1;have hw:=Mt (sz:=P.cellsOf e) (parts.toList.map λp=>(a.eval p.2).cells.toList) 0 pd.toList
    (λv hv=>by obtain⟨p,hp,rfl⟩:=cK.1 hv;obtain⟨q,hq⟩:=lK.1 hp;rw[pN];exact jl q p hq)
    (by simp[Fc,hlen]) i2 j (a.eval pp.2).cells.toList (by simp only[dd,hpe,bQ]) pM
   rw[<-adL,<-WW,cS]at hw;have WM:j<(a.eval pp.2).cells.size:=by rw[jl i2 _ hpe];exact pM
   have h3:=(um hr).2 j _ c (cq (by simpa using WM)) h2;have h4:cs.getD (i2*P.cellsOf e+j) undef=(a.eval pp.2).cells.toList[j]'(by simpa using WM):=by rw[jI,<-iW,hw,cq (by simpa using WM)];rfl
   rw[h4];exact h3)
  rw[SA]at jd;exact jd
end
section
variable{P:Program}{E:Env}{w0:World}{I0:Cells}{n:Nat}{o:Oper}{s:St}{K:St->Prop}{a:Act}{w:World}{I:Cells}{be:Nat->Option Nat}{b:Nat->Option Bx}{g:Nat->Nat}
theorem jK(ax:aJ n o=true)(hR:aC P E w0 I0 n s a w I be){ps:List Operand}(qu:∀x∈ps,x∈o.op.operands){r:List AV}(h:bK s ps=some r):mm w I (ps.map a.eval) r:=by obtain⟨hl,hq⟩:=nn h;refine⟨by simp[hl],λj v c hv hc=>?_⟩;simp only[dd,ck]at hv;obtain⟨p,hp,rfl⟩:=hv;exact c9 (au ax (qu p (bC hp)) hR) (hq j p c hp hc)
theorem sT{caps:Array Operand}(ho:o.op=.makeFunc (.func f) #[] caps)(ax:aJ n o=true)(hx:bK s caps.toList=some xs):dm P E w0 I0 n o s (.val (.fn f xs)):=
 λa w I be hR=>by
  have h1:=jK ax hR (ps:=caps.toList) (λx hx=>by simp[ho,Op.operands];simpa using hx) hx;refine⟨.func (.func f) #[] (caps.map a.eval),by simp[execOp,ho,Instr.makeFunc],.fn f _ _ (by simpa using h1.1) λj c hc=>?_⟩;have hj:j<caps.size:=by have:=h1.1;have h3:=(aV.1 hc).1;simp at this;omega
  have:=h1.2 j (a.eval caps[j]) c (by simp[hj]) hc;simpa[hj]using this
theorem uT{x:Operand}(ho:o.op=.makeInterface t x)(ax:aJ n o=true)(ht:P.concrete t=true){v:AV}(hx:bh (s.ev x)=some v):dm P E w0 I0 n o s (.val (.mI t v)):=λa w I be hR=>by have h1:=c9 (au ax (x:=x) (by simp[ho,Op.operands]) hR) hx;exact⟨.iface t (a.eval x),by simp[execOp,ho,run_makeInterface _ t _ ht],.mI t _ _ h1⟩
theorem JO{x:Operand}{f:Nat}(ho:o.op=.field t x f)(ax:aJ n o=true)(hf:lJ P t f=some (off,ft)){cs:List AV}(hx:s.ev x=.val (.agg cs))
  {K:AV->Prop} (hK:fC P ft (cs.drop off) K):∃v,K v/\dm P E w0 I0 n o s (.val v):=by
 obtain⟨fs,fd,hu,hfd,rfl,rfl,hs⟩:=rD hf;obtain⟨h1,h2,h3⟩:=hK;cases hb:nS P fd.type with
 |none=>simp[hb]at h3|some q=>
  cases q with
  |true=>
   simp only[hb]at h3;refine⟨_,h3,λa w I be hR=>?_⟩;have Zu:=au ax (x:=x) (by simp[ho,Op.operands]) hR;rw[hx]at Zu;generalize hv:a.eval x=v at*;cases Zu with
   |agg vs cs hl hr=>
    have hdl:fd.offset+P.cellsOf fd.type<=vs.size:=by simp at h2;omega
    refine⟨.agg (vs.extract fd.offset (fd.offset+P.cellsOf fd.type)),?_,.agg _ _ (by simp;omega) λj c hc=>?_⟩
    ·simp[execOp,ho,hv,Instr.field,dr hu,hfd,part,qC hb,run_sizeOf rfl h1,asAgg]
    ·rw[fZ]at hc;split at hc
     ·rename_i hj;rw[lA]at hc;have:=hr _ c hc;have Js:fd.offset+j<vs.size:=by omega
      have e:(vs.extract fd.offset (fd.offset+P.cellsOf fd.type)).getD j undef=vs.getD (fd.offset+j) undef:=by simp only[jI,Array.getElem?_extract];rw[ap (by omega)]
      rw[e];exact this
     ·cases hc
  |false=>
   simp only[hb]at h3;refine⟨_,h3,λa w I be hR=>?_⟩;have Zu:=au ax (x:=x) (by simp[ho,Op.operands]) hR;rw[hx]at Zu;generalize hv:a.eval x=v at*;cases Zu with
   |agg vs cs hl hr=>
    have hdl:fd.offset<vs.size:=by simp at h2;omega
    refine⟨vs[fd.offset],?_,?_⟩
    ·simp[execOp,ho,hv,Instr.field,dr hu,hfd,part,qC hb,hdl,asAgg]
    ·have hc:cs[fd.offset]?=some cs[fd.offset]:=cq (by omega);have e:(cs.drop fd.offset).headD (.fl undef)=cs[fd.offset]:=by rw[uY (by omega)];rfl
     rw[e];have:=hr _ _ hc;simpa[hdl,bD]using this
def nD(s:St)(dflt:Nat):Option Operand->Option Nat
 |none=>some dflt|some x=>match s.ev x with
  |.val (.fl (.int _ m))=>if 0<=m then some m.toNat else none|_=>none
theorem CI(h:nD s dflt none=some l):l=dflt:=by simp[nD]at h;exact h.symm
theorem CJ(ax:aJ n o=true)(hR:aC P E w0 I0 n s a w I be){x:Operand}(qu:x∈o.op.operands)(h:nD s dflt (some x)=some l):∃k,a.eval x=.int k l:=by
 unfold nD at h;simp only at h;cases hr:s.ev x with
 |val y=>
  cases y with
  |fl v=>
   cases v with
   |int k m=>
    simp only[hr]at h;split at h
    ·rename_i h0;injection h with h;have h1:=au ax qu hR;rw[hr]at h1;exact⟨k,by rw[bR h1];congr 1;omega⟩
    ·cases h
   |_=>simp[hr]at h
  |_=>simp[hr]at h
 |_=>simp[hr]at h
theorem run_sliceBound{k:IntKind}{y:Nat}{code:BoundsCode}(h:l<=y):(Instr.sliceBound (.int k l) y code).run P w=.ok l w:=by
 have h1:(0:Int)<=l/\(l:Int)<=y:=by omega
 simp[Instr.sliceBound,asIntOf,h1]
theorem sm(ax:aJ n o=true)(hR:aC P E w0 I0 n s a w I be)(qu:∀x,lo=some x∨hi=some x∨mx=some x->x∈o.op.operands){h:Nat}{q:Bool}
  (hl:nD s 0 lo=some l) (hh:nD s len hi=some h) (hm:nD s cap mx=some m) (h1:l<=h) (h2:h<=m) (h3:m<=cap) (h4:mx=none∨hi≠none):
  (Instr.sliceBounds q len cap (lo.map a.eval) (hi.map a.eval) (mx.map a.eval)).run P w=.ok (l,h,m) w:=by
 have za:lo=none/\l=0∨∃x k,lo=some x/\a.eval x=.int k l:=by
  cases lo with
  |none=>exact .inl ⟨rfl,CI hl⟩|some x=>obtain ⟨k,e⟩:=CJ ax hR (qu x (.inl rfl)) hl;exact .inr ⟨x,k,rfl,e⟩
 have hhi:hi=none/\h=len∨∃x k,hi=some x/\a.eval x=.int k h:=by
  cases hi with
  |none=>exact .inl ⟨rfl,CI hh⟩|some x=>obtain ⟨k,e⟩:=CJ ax hR (qu x (.inr (.inl rfl))) hh;exact .inr ⟨x,k,rfl,e⟩
 have yU:mx=none/\m=cap∨∃x k,mx=some x/\a.eval x=.int k m:=by
  cases mx with
  |none=>exact .inl ⟨rfl,CI hm⟩|some x=>obtain ⟨k,e⟩:=CJ ax hR (qu x (.inr (.inr rfl))) hm;exact .inr ⟨x,k,rfl,e⟩
 clear hl hh hm qu;have b1:∀(k:IntKind)(code:BoundsCode),(Instr.sliceBound (.int k l) h code).run P w=.ok l w:=λk code=>run_sliceBound h1;have b2:∀(k:IntKind)(code:BoundsCode),(Instr.sliceBound (.int k h) m code).run P w=.ok h w:=λk code=>run_sliceBound h2;have b3:∀(k:IntKind)(code:BoundsCode),(Instr.sliceBound (.int k m) cap code).run P w=.ok m w:=λk code=>run_sliceBound h3;rcases yU with⟨rfl,rfl⟩|⟨z,kz,rfl,ez⟩<;>rcases hhi with⟨rfl,rfl⟩|⟨y,ky,rfl,ey⟩<;>rcases za with⟨rfl,rfl⟩|⟨x,kx,rfl,ex⟩<;>
  first
  |(exfalso;rcases h4 with h|h<;>simp at h;done)
  |simp[Instr.sliceBounds, *]
theorem pP(ax:aJ n o=true)(hR:aC P E w0 I0 n s a w I be)(ht:P.underlying t=some (.slice e))(hs:0<P.cellsOf e)(qu:∀x,lo=some x∨hi=some x∨mx=some x->x∈o.op.operands){h:Nat}
  (hl:nD s 0 lo=some l) (hh:nD s len hi=some h) (hm:nD s cap mx=some m) (h1:l<=h) (h2:h<=m) (h3:m<=cap) (h4:mx=none∨hi≠none):
  (Instr.sliceAt t (.slice A len cap) (lo.map a.eval) (hi.map a.eval) (mx.map a.eval)).run P w=.ok (.slice (if m=l then A else A.map (·.add (l*P.cellsOf e))) (h-l) (m-l)) w:=by
 have hb:=sm (q:=true) ax hR qu hl hh hm h1 h2 h3 h4;simp only[Instr.sliceAt,Instr.slice,bJ,dr ht,bX,hb,run_sizeOf rfl hs,b9]
theorem BN(A:Option Addr)(c:Nat)(hc:c<=maxLen):cj w I (.slice A 0 c) (.sl []):=by
 cases A with
 |none=>exact .fJ c|some a=>exact .sl a 0 c 0 _ (λ_ _=>undef) rfl (by simp) hc (λi x hx=>by simp at hx) (λi j x c hx=>by simp at hx) (λi j x c hx=>by simp at hx) (λi j x c hx=>by simp at hx)
theorem Ou{a:Addr}(hr:cj w I (.slice (some a) len cap) (.sl xs))(dh:∀x∈xs,x.cells.length=P.cellsOf e){h:Nat}(h1:l<=h)(hx:h<=xs.length)(h2:h<=m)(h3:m<=cap)(hc:cap<=maxLen):
  cj w I (.slice (if m=l then some a else(some a).map (·.add (l*P.cellsOf e))) (h-l) (m-l)) (.sl ((xs.drop l).take (h-l))):=by
 by_cases h0:h=l
 ·subst h0;simp only[zd,vG];exact BN _ _ (by omega)
 ·have hml:¬m=l:=by omega
  simp only[hml,bY,bQ];cases hr with
  |sl a' n eY sz _ cv hn gy iE adM jn hI Se=>
   have Ht:sz=P.cellsOf e:=by have h5:xs[0]?=some xs[0]:=cq (by omega);rw[<-(adM 0 _ h5).1];exact dh _ (fx _)
   subst Ht;have key:∀(i:Nat)(x:AV),((xs.drop l).take (h-l))[i]?=some x->xs[l+i]?=some x:=by
    intro i x hi;rw[fZ]at hi;split at hi
    ·rwa[lA]at hi
    ·cases hi
   have QF:∀i j,(a.add (l*P.cellsOf e)).add (i*P.cellsOf e+j)=a.add ((l+i)*P.cellsOf e+j):=λi j=>by rw[add_add,ew];congr 1;omega
   refine .sl _ _ _ (P.cellsOf e) _ (λi j=>cv (l+i) j) (by simp;omega) (by simp;omega) (by omega) (λi x hi=>adM _ _ (key i x hi)) (λi j x c hi hj=>?_) (λi j x c hi hj=>?_) (λi j x c hi hj=>?_)
   ·rw[QF];exact jn _ _ _ _ (key i x hi) hj
   ·rw[QF];exact hI _ _ _ _ (key i x hi) hj
   ·exact Se _ _ _ _ (key i x hi) hj
theorem sU(h:cj w I v (.sl xs)):∃A cap,v=.slice A xs.length cap/\xs.length<=cap/\(A=none->xs=[]):=by
 cases h with
 |fJ c=>exact ⟨none,c,rfl,by simp,λ_=>rfl⟩|sl a n cap sz xs cv hn gy iE dh hc hI hr=>subst hn;exact ⟨some a,cap,rfl,gy,λh=>by cases h⟩
theorem CK{x:Operand}(ho:o.op=.slice t x lo hi none)(ax:aJ n o=true)(ht:dO P t=some e)(hs:0<P.cellsOf e)(hx:bh (s.ev x)=some (.sl xs))(dh:∀x∈xs,x.cells.length=P.cellsOf e)
  {h:Nat} (hl:nD s 0 lo=some l) (hh:nD s xs.length hi=some h) (h1:l<=h) (h2:h<=xs.length):dm P E w0 I0 n o s (.val (.sl ((xs.drop l).take (h-l)))):=
 λa w I be hR=>by
  have hr:=c9 (au ax (x:=x) (by simp[ho,Op.operands]) hR) hx;obtain⟨A,cap,e1,gy,QG⟩:=sU hr;have cu:=pP (P:=P) ax hR (w:=w) (A:=A) (cap:=cap) (mx:=none) (dv ht) hs (λy hy=>by rcases hy with h|h|h<;>simp[ho,Op.operands,h]) hl hh (by simp[nD]) h1 (by omega) (aP _) (.inl rfl);refine⟨_,by simp only[execOp,ho,e1,bJ,jW]at cu⊢;rw[cu];rfl,?_⟩;rw[e1]at hr;cases A with
  |none=>
   have:=QG rfl;subst this;have h5:h=0:=by simpa using h2
   have h6:l=0:=by omega
   subst h5 h6;simp only[List.drop_nil,List.take_nil,jW,ite_self];exact .fJ _
  |some ad=>
   have hm:cap<=maxLen:=by generalize xs.length=m at hr;cases hr;assumption
   exact Ou hr dh h1 h2 (by omega) (aP _) hm
theorem ze{x z:Operand}(ho:o.op=.slice t x lo (some y) (some z))(ax:aJ n o=true)(ht:dO P t=some e)(hs:0<P.cellsOf e)(hx:bh (s.ev x)=some (.sl xs))(dh:∀x∈xs,x.cells.length=P.cellsOf e)
  {h:Nat} (hl:nD s 0 lo=some l) (hh:nD s 0 (some y)=some h) (hm:nD s 0 (some z)=some h) (h1:l<=h) (h2:h<=xs.length):dm P E w0 I0 n o s (.full ((xs.drop l).take (h-l))):=
 λa w I be hR=>by
  have hr:=c9 (au ax (x:=x) (by simp[ho,Op.operands]) hR) hx;obtain⟨A,cap,e1,gy,QG⟩:=sU hr;have cu:=pP (P:=P) ax hR (w:=w) (A:=A) (len:=xs.length) (cap:=cap) (hi:=some y) (mx:=some z) (dv ht) hs (λy hy=>by rcases hy with h|h|h<;>simp[ho,Op.operands,h]) hl hh hm h1 (aP _) (by omega) (.inr (by simp));have hlen:((xs.drop l).take (h-l)).length=h-l:=by simp;omega
  refine⟨_,by simp only[execOp,ho,e1,bJ,bQ]at cu⊢;rw[cu];rfl,?_,by rw[hlen];exact ⟨_,rfl⟩⟩;rw[e1]at hr;cases A with
  |none=>
   have:=QG rfl;subst this;have h5:h=0:=by simpa using h2
   have h6:l=0:=by omega
   subst h5 h6;simp only[List.drop_nil,List.take_nil,jW,ite_self];exact .fJ _
  |some ad=>
   have hm:cap<=maxLen:=by generalize xs.length=m at hr;cases hr;assumption
   exact Ou hr dh h1 h2 (aP _) (by omega) hm
theorem mP{x:Operand}(ho:o.op=.slice t x lo hi none)(ax:aJ n o=true)(ht:dO P t=some e)(hx:s.ev x=.view d gg off len)(hg:gg=s.g d)(hb:s.b d=some (.aT e xs))
  {h:Nat} (hl:nD s 0 lo=some l) (hh:nD s len hi=some h) (h1:l<=h) (h2:h<=len):dm P E w0 I0 n o s (.view d gg (off+l) (h-l)):=
 λa w I be hR=>by
  have hr:=au ax (x:=x) (by simp[ho,Op.operands]) hR;rw[hx]at hr;obtain⟨wX,qD,pH,sg⟩:=hR.boxes d _ hb;obtain⟨hll,hv⟩:=nj hr hg hb;have qu:∀y,lo=some y∨hi=some y∨(none:Option Operand)=some y->y∈o.op.operands:=λy hy=>by rcases hy with h|h|h<;>simp[ho,Op.operands,h]
  cases hB:be d with
  |none=>
   simp only[hB]at hv sg;obtain⟨A,e1⟩:=hv;subst sg;have hl0:len=0:=by simp at hll;omega
   have hh0:h=0:=by omega
   have ahN:l=0:=by omega
   subst hl0 hh0 ahN;have cu:=pP (P:=P) ax hR (w:=w) (A:=A) (cap:=0) (mx:=none) (dv ht) wX qu hl hh (by simp[nD]) h1 (aP _) (aP _) (.inl rfl);refine⟨_,by simp only[execOp,ho,e1,bJ,jW]at cu⊢;rw[cu];rfl,hr.1,λ_=>?_⟩;unfold viewAt;simp only[hb,hB];exact⟨by simp at hll⊢;omega,A,by simp⟩
  |some B=>
   simp only[hB]at hv sg;obtain⟨cur,cap,A,hw,jl,e1,hA⟩:=hv;obtain⟨fE,eY,qB,Cz,E1,Hs,_⟩:=sg;rw[hw]at qB;injection qB with qB;injection qB with q1 q2;subst q1;have gy:eY=cap:=(o9 wX (jl.symm.trans Cz)).symm;subst gy;have cu:=pP (P:=P) ax hR (w:=w) (A:=A) (cap:=eY-off) (mx:=none) (dv ht) wX qu hl hh (by simp[nD]) h1 (by omega) (aP _) (.inl rfl);refine⟨_,by simp only[execOp,ho,e1,bJ,jW]at cu⊢;rw[cu];rfl,hr.1,λ_=>?_⟩;unfold viewAt;simp only[hb,hB];refine⟨by omega,cur,eY,(if eY-off=l then A else A.map (·.add (l*P.cellsOf e))),hw,jl,?_,?_⟩
   ·congr 1;omega
   ·intro eK;have h5:¬eY-off=l:=by omega
    rw[ai h5,hA (by omega)];simp only[bQ,dJ,ew]
end
abbrev bs(l:List UInt8):Value:=.string ⟨l.toArray⟩
def sV(op:BinOp)(k:IntKind)(x y:Int):Option Value:=
 match op with
 |.add=>some (.int k (k.wrap (x+y)))|.sub=>some (.int k (k.wrap (x-y)))
 |.mul=>some (.int k (k.wrap (x*y)))|.quo=>if y=0 then none else some (.int k (k.wrap (x.tdiv y)))
 |.rem=>if y=0 then none else some (.int k (x.tmod y))|.and=>some (.int k (k.wrap (BitVec.ofInt k.bits x&&&BitVec.ofInt k.bits y).toNat))
 |.or=>some (.int k (k.wrap (BitVec.ofInt k.bits x|||BitVec.ofInt k.bits y).toNat))
 |.xor=>some (.int k (k.wrap (BitVec.ofInt k.bits x^^^BitVec.ofInt k.bits y).toNat))|.andNot=>some (.int k (k.wrap (BitVec.ofInt k.bits x&&&~~~BitVec.ofInt k.bits y).toNat))
 |.shl=>if y<0 then none else some (.int k (k.wrap (x*2^(min y.toNat k.bits))))|.shr=>if y<0 then none else some (.int k (x.fdiv (2^(min y.toNat k.bits))))
 |.eql=>some (.bool (x==y))|.neq=>some (.bool (x !=y))
 |.lss=>some (.bool (decide (x<y)))|.leq=>some (.bool (decide (x<=y)))
 |.gtr=>some (.bool (decide (x>y)))|.geq=>some (.bool (decide (x≥y)))
def lL:BinOp->Bool
 |.shl|.shr=>true|_=>false
def mQ(op:BinOp)(x y:List UInt8):Option Value:=
 match op with
 |.add=>if x.length+y.length<=maxLen then some (bs (x++y))else none|.eql=>some (.bool (x==y))
 |.neq=>some (.bool (x !=y))|.lss=>some (.bool (Op.bytesLess x y))
 |.leq=>some (.bool (Op.bytesLess x y||x==y))|.gtr=>some (.bool (!(Op.bytesLess x y||x==y)))
 |.geq=>some (.bool (!Op.bytesLess x y))|_=>none
section
variable{P:Program}{E:Env}{w0:World}{I0:Cells}{n:Nat}{o:Oper}{s:St}{K:St->Prop}{a:Act}{w:World}{I:Cells}{be:Nat->Option Nat}{b:Nat->Option Bx}{g:Nat->Nat}
theorem BO{x:Operand}{k:IntKind}{q:Int}:(eqGuard op t x y (.int k p) (.int k' q)).run P w=.ok () w:=by cases op<;>rfl
theorem BP{x:Operand}{p q:ByteArray}:(eqGuard op t x y (.string p) (.string q)).run P w=.ok () w:=by cases op<;>rfl
theorem qE{x:Operand}{p q:Bool}:(eqGuard op t x y (.bool p) (.bool q)).run P w=.ok () w:=by cases op<;>rfl
theorem Mv{k:IntKind}{q:Int}(hk:k'=k∨lL op=true)(h:sV op k p q=some v):(binOp op t (.int k p) (.int k' q)).run P w=.ok v w:=by
 cases op<;>simp only[sV,ah]at h<;>
  first
  |(have fM:k'=k:=hk.resolve_right (by simp[lL])
    subst fM h;simp[binOp,Op.intArith,Op.intBits,Op.intCmp];done)
  |(split at h
    ·cases h
    ·rename_i hq;injection h with h;first
     |(have fM:k'=k:=hk.resolve_right (by simp[lL])
       subst fM h;simp[binOp,Op.intDiv,hq];done)
     |(subst h
       simp[binOp,Op.shift,hq];done))
theorem BQ{x:Operand}(ho:o.op=.binOp op t x y t')(ax:aJ n o=true){k:IntKind}{q:Int}(hx:s.ev x=.val (.fl (.int k p)))(hy:s.ev y=.val (.fl (.int k' q)))(hk:k'=k∨lL op=true)(hv:sV op k p q=some v):dm P E w0 I0 n o s (.val (.fl v)):=
 λa w I be hR=>by
  have h1:=au ax (x:=x) (by simp[ho,Op.operands]) hR;have h2:=au ax (x:=y) (by simp[ho,Op.operands]) hR;rw[hx]at h1;rw[hy]at h2;refine⟨v,?_,.fl _ ?_⟩
  ·simp only[execOp,ho,bR h1,bR h2,bJ,BO,bX,Mv hk hv,b9]
  ·cases op<;>simp only[sV,ah]at hv<;>first
    |(subst hv;rfl)
    |(split at hv
      ·cases hv
      ·injection hv with hv;subst hv;rfl)
theorem Mw{p q:List UInt8}(h:mQ op p q=some v):(binOp op t (bs p) (bs q)).run P w=.ok v w:=by
 have e:∀l:List UInt8,(ByteArray.mk l.toArray).toList=l:=λl=>ByteArray.toList_mk l;have one:∀op,(op≠.add)->mQ op p q=some v->(binOp op t (bs p) (bs q)).run P w=.ok v w:=by
  intro op dA h;cases op<;>simp only[mQ,ah,reduceCtorEq]at h<;>first
   |(subst h;simp[bs,binOp,Op.stringOp,e];done)
   |exact absurd rfl dA
   |(subst h;simp only[bs,binOp,Op.stringOp,e,b9];simp[bne])
 cases op with
 |add=>
  simp only[mQ]at h;split at h
  ·rename_i hl;injection h with h;subst h;have h2:¬(((p.length+q.length:Nat):Int)>IntKind.i64.max):=by simp only[maxLen]at hl;simp[IntKind.max,IntKind.signed,IntKind.bits];omega
   have h3:(ByteArray.mk p.toArray).size=p.length:=by simp[ByteArray.size]
   have h4:(ByteArray.mk q.toArray).size=q.length:=by simp[ByteArray.size]
   have h5:ByteArray.mk p.toArray++ByteArray.mk q.toArray=ByteArray.mk (p++q).toArray:=by apply ByteArray.ext;simp
   simp only[bs,binOp,Op.stringOp,h3,h4,h2,bY,b9,h5]
  ·cases h
 |_=>exact one _ (by simp) h
theorem Mx{p q:List UInt8}(h:mQ op p q=some v):One v:=by
 cases op<;>simp only[mQ,ah,reduceCtorEq]at h<;>first
  |(subst h;rfl)
  |(split at h
    ·injection h with h;subst h;rfl
    ·cases h)
theorem BR{x:Operand}(ho:o.op=.binOp op t x y t')(ax:aJ n o=true){p q:List UInt8}(hx:s.ev x=.val (.fl (bs p)))(hy:s.ev y=.val (.fl (bs q)))(hv:mQ op p q=some v):dm P E w0 I0 n o s (.val (.fl v)):=λa w I be hR=>by have h1:=au ax (x:=x) (by simp[ho,Op.operands]) hR;have h2:=au ax (x:=y) (by simp[ho,Op.operands]) hR;rw[hx]at h1;rw[hy]at h2;refine⟨v,?_,.fl _ (Mx hv)⟩;have hr:=Mw (P:=P) (w:=w) (t:=t) hv;have hg:(eqGuard op t x y (bs p) (bs q)).run P w=.ok () w:=BP;simp only[execOp,ho,bR h1,bR h2,bJ,hg,bX,hr,b9]
def My:AV->Option Value
 |.fl v=>some v|_=>none
def qc:AV->Option Value
 |.fl v=>some v|.agg cs=>(cs.mapM My).map λvs=>.agg vs.toArray
 |_=>none
def oH:br->Option Value
 |.val x=>qc x|.full []=>some (.slice none 0 0)
 |_=>none
theorem Mz{u:Value}{x:AV}(h:cj w I v x)(hx:qc x=some u):v=u:=by
 cases h with
 |fl v hv=>simpa[qc]using hx|agg vs cs hl hr=>
  simp only[qc,ck]at hx;obtain⟨us,hus,rfl⟩:=hx;congr 1;have gen:∀(cs:List AV)(us:List Value),cs.mapM My=some us->us.length=cs.length/\∀(j:Nat)(c:AV),cs[j]?=some c->∃u,us[j]?=some u/\c=.fl u:=by
   intro cs;induction cs with
   |nil=>intro us h;simp at h;subst h;simp|cons c cs ih=>
    intro us h;simp only[List.mapM_cons]at h;cases c with
    |fl v=>
     simp only[My,Option.bind_eq_bind,aU]at h;cases hq:cs.mapM My with
     |none=>simp[hq]at h|some us'=>
      simp only[hq,aU,Option.pure_def,ah]at h;subst h;obtain⟨h1,h2⟩:=ih us' hq;refine⟨by simp[h1],λj c hj=>?_⟩;cases j with
      |zero=>simp at hj;subst hj;exact ⟨v,rfl,rfl⟩|succ j=>simpa using h2 j c (by simpa using hj)
    |_=>simp[My]at h
  obtain⟨h1,h2⟩:=gen cs us hus;apply CL
  ·simp;omega
  ·intro j hj1 Js;have SC:j<cs.length:=by omega
   obtain⟨u,hu,e⟩:=h2 j cs[j] (cq SC);have h3:=hr j cs[j] (cq SC);rw[e]at h3;have h4:=bR h3;simp only[jI,sW hj1,dB]at h4;rw[h4];have hju:j<us.length:=by omega
   rw[cq hju]at hu;injection hu with hu;simp[hu]
 |_=>simp[qc]at hx
theorem CM{x:Operand}(ho:o.op=.unOp .not t x)(ax:aJ n o=true){p:Bool}(hx:s.ev x=.val (.fl (.bool p))):dm P E w0 I0 n o s (.val (.fl (.bool (!p)))):=λa w I be hR=>by have h1:=au ax (x:=x) (by simp[ho,Op.operands]) hR;rw[hx]at h1;exact⟨.bool (!p),by simp[execOp,ho,bR h1,Op.unary],.fl _ rfl⟩
theorem CN{x:Operand}(ho:o.op=.unOp .neg t x)(ax:aJ n o=true){k:IntKind}(hx:s.ev x=.val (.fl (.int k p))):dm P E w0 I0 n o s (.val (.fl (.int k (k.wrap (0-p))))):=λa w I be hR=>by have h1:=au ax (x:=x) (by simp[ho,Op.operands]) hR;rw[hx]at h1;exact⟨.int k (k.wrap (0-p)),by simp[execOp,ho,bR h1,Op.unary,Op.intArith],.fl _ rfl⟩
theorem zf{x:Operand}(ho:o.op=.binOp op t x y t')(ax:aJ n o=true)(ht:P.underlying t=some .bool)(sX:op=.eql∨op=.neq){p q:Bool}(hx:s.ev x=.val (.fl (.bool p)))(hy:s.ev y=.val (.fl (.bool q))):dm P E w0 I0 n o s (.val (.fl (.bool (if op=.eql then p==q else p !=q)))):=
 λa w I be hR=>by
  have h1:=au ax (x:=x) (by simp[ho,Op.operands]) hR;have h2:=au ax (x:=y) (by simp[ho,Op.operands]) hR;rw[hx]at h1;rw[hy]at h2;refine⟨_,?_,.fl _ rfl⟩;have he:(Op.equal t (.bool p) (.bool q)).run P w=.ok (p==q) w:=run_equalIn_bool' w 9999 t p q ht;rcases sX with rfl|rfl
  ·have hb:binOp .eql t (.bool p) (.bool q)=(do pure (.bool (<-Op.equal t (.bool p) (.bool q)))):=rfl;simp only[execOp,ho,bR h1,bR h2,bJ,qE,bX,hb,he,b9,bp]
  ·have hb:binOp .neq t (.bool p) (.bool q)=(do pure (.bool (!(<-Op.equal t (.bool p) (.bool q))))):=rfl;simp only[execOp,ho,bR h1,bR h2,bJ,qE,bX,hb,he,b9];rfl
theorem BT{x:Operand}(ho:o.op=.index t x y)(ax:aJ n o=true)(ht:P.underlying t=some .string){l:List UInt8}{k:IntKind}{m:Int}(hx:s.ev x=.val (.fl (bs l)))(hy:s.ev y=.val (.fl (.int k m)))(h0:0<=m){c:UInt8}(hc:l[m.toNat]?=some c):dm P E w0 I0 n o s (.val (.fl (.int .u8 c.toNat))):=
 λa w I be hR=>by
  have h1:=au ax (x:=x) (by simp[ho,Op.operands]) hR;have h2:=au ax (x:=y) (by simp[ho,Op.operands]) hR;rw[hx]at h1;rw[hy]at h2;have hl:m.toNat<l.length:=(aV.1 hc).1;have e:(ByteArray.mk l.toArray)[m.toNat]?=some c:=by
   have hs:m.toNat<(ByteArray.mk l.toArray).size:=by simpa[ByteArray.size]using hl
   rw[ByteArray.getElem?_lt' _ _ hs];congr 1;have:=(aV.1 hc).2;simpa[ByteArray.getElem_eq_getElem_data]using this
  exact⟨.int .u8 c.toNat,by simp[execOp,ho,bR h1,bR h2,bs,Instr.index,asIntOf,dr ht,h0,e],.fl _ rfl⟩
theorem MA(l:List UInt8)(i j:Nat):Value.string ((ByteArray.mk l.toArray).extract i j)=bs ((l.drop i).take (j-i)):=by rw[ByteArray.extract_mk]
theorem BU{x:Operand}(ho:o.op=.slice t x lo hi none)(ax:aJ n o=true)(ht:P.underlying t=some .string){xs:List UInt8}(hx:s.ev x=.val (.fl (bs xs))){h:Nat}(hl:nD s 0 lo=some l)(hh:nD s xs.length hi=some h)(h1:l<=h)(h2:h<=xs.length):dm P E w0 I0 n o s (.val (.fl (bs ((xs.drop l).take (h-l))))):=
 λa w I be hR=>by
  have hr:=au ax (x:=x) (by simp[ho,Op.operands]) hR;rw[hx]at hr;have e1:=bR hr;have dh:(ByteArray.mk xs.toArray).size=xs.length:=by simp[ByteArray.size]
  have hb:=sm (P:=P) (w:=w) (q:=false) (len:=xs.length) (cap:=xs.length) (m:=xs.length) (mx:=none) ax hR (λy hy=>by rcases hy with h|h|h<;>simp[ho,Op.operands,h]) hl hh (by simp[nD]) h1 h2 (aP _) (.inl rfl);refine⟨_,?_,.fl _ rfl⟩;simp only[jW]at hb;simp only[execOp,ho,e1,bs,Instr.sliceAt,Instr.slice,bJ,dr ht,bX,jW,Option.isSome_none,gB,bY,b9,dh,hb,MA]
end
inductive RV where
 |v (x:AV)
 |own (e:TypeId) (xs:List AV)
 deriving Inhabited
inductive Out where
 |ret (rs:List RV)
 |cG (x:AV)
 deriving Inhabited
variable{out:Out}
def lM(P:Program)(E:Env)(w:World)(I:Cells)(base:Nat->Prop)(bo:Option Nat)(v:Value):RV->Prop
 |.v x=>cj w I v x|.own e xs=>0<P.cellsOf e/\xs.length<=maxLen/\gY P e xs/\
  match bo with
  |none=>xs=[]/\∃A,v=.slice A 0 0|some B=>base B/\B<w.heap.size/\(∀p,I p->p.block≠B)/\¬E.bN w B/\∃cur cap,w.heap[B]?=some (.cells cur e (0,0))/\cur.size=cap*P.cellsOf e/\cap<=maxLen/\xs.length<=cap/\(∃A,v=.slice A xs.length cap/\(0<cap->A=some ⟨B,0,none⟩))/\∀(i j:Nat)(x c:AV),xs[i]?=some x->x.cells[j]?=some c->cj w I (cur.getD (i*P.cellsOf e+j) undef) c
def jr(P:Program)(E:Env)(w:World)(I:Cells)(base:Nat->Prop)(bo:Nat->Option Nat)(v:Value):List RV->Prop
 |[r]=>lM P E w I base (bo 0) v r|rs=>∃vs:Array Value,v=.tuple vs/\vs.size=rs.length/\∀(j:Nat)(r:RV),rs[j]?=some r->lM P E w I base (bo j) (vs.getD j undef) r
def Hu(P:Program)(E:Env)(w0:World)(I0:Cells)(w:World)(a:Nat->Option Ob)(u:Nat->Bool):Out->Ending->Prop
 |.ret rs,e=>∃v I bo,e=.returned v/\er E w0 I0 w I/\jr P E w I (E.fresh w0) bo v rs/\(∀j j' B,bo j=some B->bo j'=some B->j=j')/\(∀j B,bo j=some B->E.fresh w0 B)/\nQ P E w0 w I a u (λB=>∃j,bo j=some B)|.cG x,e=>∃v I,e=.panicked [{v:=v,recovered:=false}]/\er E w0 I0 w I/\cj w I v x/\nQ P E w0 w I a u (λ_=>False)
def sY:Nat->Option Ob:=λ_=>none
def lN:Nat->Bool:=λ_=>true
theorem nQ.none {w:World} {I:Cells} {T:Nat->Prop} (jX:∀i,E.ro i=.none):nQ P E w0 w I sY lN T:=⟨λi x h=>(by cases h),λi j B h=>(h rfl).elim,λi B h=>(h rfl).elim,λi h=>(by cases h),λi x h=>(by rw[jX]at h;cases h)⟩
def Env.cx (E:Env) (a:Nat->Option Ob) (I0:Cells):Env:={inv:=E.inv,bN:=E.bN,stays:=E.stays,lt:=E.lt,sG:=λi=>if(a i).isSome then some (I0.ar i)else none,fixed:=false,it:=E.it}
theorem Env.eE {a:Nat->Option Ob} {B:Nat}:(E.cx a I0).BK B↔∃i,a i≠.none/\I0.ar i=some B:=by
 constructor
 ·rintro ⟨i,hi⟩;simp only[Env.cx]at hi;split at hi
  ·rename_i h;exact⟨i,λe=>(by rw[e]at h;cases h),(by simpa using hi)⟩
  ·cases hi
 ·rintro ⟨i,hi,hB⟩;refine⟨i,?_⟩;simp only[Env.cx];rw[ap (by cases h:a i with|none=>exact absurd h hi|some x=>rfl),hB]
def oI(P:Program)(E:Env)(f:FuncId)(args:List AV)(out:Out):Prop:=Go.Proofs.Enters P f/\∀(w0:World)(I0:Cells)(vs:Array Value),E.inv w0->(∀p,I0 p->p.block<w0.heap.size/\¬E.bN w0 p.block)->mm w0 I0 vs.toList args->Calls P f vs w0 λe w=>Hu P E.plain w0 I0 w sY lN out e
def nE(P:Program)(E:Env)(f:FuncId)(args:List AV)(a:Nat->Option Ob)(u:Nat->Bool)(out:Out)(a':Nat->Option Ob)(u':Nat->Bool):Prop:=Go.Proofs.Enters P f/\∀(w0:World)(I0:Cells)(vs:Array Value),E.inv w0->(∀p,I0 p->p.block<w0.heap.size/\¬E.bN w0 p.block)->nQ P (E.cx a I0) w0 w0 I0 a u (λ_=>False)->mm w0 I0 vs.toList args->Calls P f vs w0 λe w=>Hu P (E.cx a I0) w0 I0 w a' u' out e
theorem Env.fw {w:World} {B:Nat} (h:E.plain.fresh w B):w.heap.size<=B:=h.resolve_right (E.ep B)
theorem er.trans {w:World} {I:Cells} (h:er E w0 I0 w I) (h':er E w I w' I'):er E w0 I0 w' I':=by
 refine⟨h'.os.trans h.os,h'.tape.trans h.tape,h'.output.trans h.output,dI h.size h'.size,λk hk hf hl=>?_,λb hb=>?_,h'.inv,λp hp=>h'.more p (h.more p hp),λi B hi=>h'.ar i B (h.ar i B hi),λhx=>(h'.L1 hx).trans (h.L1 hx),λB=>(h.shape B).trans (h'.shape B),λp hp=>?_,h'.lt,h'.off⟩
 ·rw[h'.block k (gC hk h.size) (λJt=>by rcases h.bN k Jt with h1|h1;exact hf h1;omega) hl];exact h.block k hk hf hl
 ·rcases h'.bN b hb with h1|h1
  ·exact h.bN b h1
  ·exact .inr (dI h.size h1)
 ·rcases h'.new p hp with h1|h1|h1
  ·exact h.new p h1
  ·exact .inr (.inl (dI h.size h1))
  ·exact .inr (.inr h1)
theorem er.WX {w:World} {I:Cells} (h:er E.plain w I w' I'):er E w I w' I':=⟨h.os,h.tape,h.output,h.size,λk hk hf _=>h.block k hk hf (E.ep k),h.bN,h.inv,h.more,h.ar,λ_=>h.L1 rfl,h.shape,λp hp=>(h.new p hp).imp id (λh=>h.imp id (λh=>(E.ep _ h).elim)),h.lt,h.off⟩
theorem er.refl {w:World} {I:Cells} (hinv:E.inv w) (hI:∀p,I p->p.block<w.heap.size/\¬E.bN w p.block):er E w I w I:=⟨rfl,rfl,rfl,aP _,λ_ _ _ _=>rfl,λ_ h=>.inl h,hinv,λ_ h=>h,λ_ _ h=>h,λ_=>rfl,Shape.refl w,λ_ h=>.inl h,λp h=>(hI p h).1,λp h=>(hI p h).2⟩
section
variable{P:Program}{E:Env}{w0:World}{I0:Cells}{n:Nat}{o:Oper}{s:St}{K:St->Prop}{a:Act}{w w':World}{I I':Cells}{be:Nat->Option Nat}{b:Nat->Option Bx}{g:Nat->Nat}
theorem aC.called (h:aC P E w0 I0 n s a w I be) (h':er E.plain w I w' I'):aC P E w0 I0 n s a w' I' be:=by
 have JD:I'.ar=I.ar:=h'.L1 rfl;have hB:∀d B,s.b d≠none->be d=some B->w'.heap[B]?=w.heap[B]?:=λd B hd hB=>by obtain⟨_,h2,_,h4⟩:=h.own d B hd hB;exact h'.block B h2 h4 (E.ep B)
 have hc:cH w w' I I':=⟨h'.more,h'.ar,λp v hp hv=>by rw[ct (h'.block p.block (h.since.lt p hp) (h.since.off p hp) (E.ep _))];exact hv,h'.shape⟩
 have hd:∀d,s.g d<s.g d∨(s.g d=s.g d/\eu P w w' be be s.b s.b d):=λd=>.inr ⟨rfl,.ib rfl rfl (λB hn=>hB d B hn)⟩;have hnf:∀B,B<w.heap.size->¬E.bN w B->¬E.bN w' B:=λB hB h4 hf=>by
  rcases h'.bN B hf with h5|h5
  ·exact h4 h5
  ·omega
 refine⟨h.since.trans h'.WX,h.size,h.defers.mono hc,λt ht=>(h.cr t ht).dN hc hd,λd x hx=>(h.boxes d x hx).dN hc hd rfl (λB=>hB d B (by simp[hx])),h.inj,λd B hd Fh=>?_,h.tie,
  h.aO.dN hc JD (λi B hi ly=>by
   obtain⟨_,h2,_,h4,_⟩:=h.aO.own i B hi ly;exact h'.block B h2 h4 (E.ep B)) h'.size (λp hp=>by
   rcases h'.new p hp with h5|h5|h5
   ·exact .inl h5
   ·refine .inr λi hi ly=>?_;have:=(h.aO.own i _ hi ly).2.1;omega
   ·exact (E.ep _ h5).elim) (λb hb hf=>JP λhn=>hnf b hb hn hf) (λ_ h=>.inl h)⟩
 obtain⟨h1,h2,h3,h4⟩:=h.own d B hd Fh;refine⟨h1,gC h2 h'.size,λp hp e=>?_,λhf=>?_⟩
 ·rcases h'.new p hp with h5|h5|h5
  ·exact h3 p h5 e
  ·omega
  ·exact (E.ep _ h5).elim
 ·rcases h'.bN B hf with h5|h5
  ·exact h4 h5
  ·omega
def St.gb (s:St) (id:Nat):RV->br×St
 |.v x=>(.val x,s)|.own e xs=>(.view id (s.g id+1) 0 xs.length,{s with b:=bF s.b id (some (.aT e xs)),g:=bF s.g id (s.g id+1)})
theorem aC.gb (h:aC P E w0 I0 n s a w I be) (id:Nat) {bo:Option Nat} {r:RV} (hr:lM P E w I base bo v r) (sn:∀B,base B->E.fresh w0 B)
  (CO:∀B,bo=some B->∀d',d'≠id->s.b d'≠none->be d'≠some B) (SN:∀B,bo=some B->∀i,s.a i≠none->I.ar i≠some B):
  ∃iK,aC P E w0 I0 n (s.gb id r).2 a w I iK/\bD P w I iK (s.gb id r).2.b (s.gb id r).2.g v (s.gb id r).1/\(∀d',d'≠id->iK d'=be d'/\(s.gb id r).2.b d'=s.b d')/\(∀v r',bD P w I be s.b s.g v r'->bD P w I iK (s.gb id r).2.b (s.gb id r).2.g v r')/\((s.gb id r).2.b id=s.b id/\iK id=be id∨iK id=bo):=by
 cases r with
 |v x=>exact ⟨be,h,hr,λ_ _=>⟨rfl,rfl⟩,λ_ _ h=>h,.inl ⟨rfl,rfl⟩⟩|own e xs=>
  obtain⟨h1,h2,h3,h4⟩:=hr;have hx:fX P w I (bF be id bo) (bF s.b id (some (.aT e xs))) (bF s.g id (s.g id+1)) id (.aT e xs):=by
   refine⟨h1,h2,λi x hi=>h3 x (bC hi),?_⟩;rw[bA];cases bo with
   |none=>exact h4.1|some B=>obtain⟨_,_,_,_,cur,cap,q1,q2,q3,q4,_,q6⟩:=h4;exact⟨cur,cap,q1,q2,q3,q4,q6⟩
  have sE:=h.nC id (.aT e xs) bo hx (λB hB=>by subst hB;obtain⟨q1,q2,q3,q4,_⟩:=h4;exact⟨sn B q1,q2,q3,q4,λd' hd hn=>CO B rfl d' hd hn⟩) SN;refine⟨bF be id bo,sE,⟨by simp[St.gb],λ_=>?_⟩,λd' hd=>⟨ay _ _ hd,ay _ _ hd⟩,λv r' yQ=>yQ.dN (.refl _ _) (FN id _ _),.inr (bA _ _ _)⟩;simp only[St.gb];unfold viewAt;simp only[bA];cases bo with
  |none=>obtain⟨rfl,A,rfl⟩:=h4;exact⟨by simp,A,rfl⟩|some B=>obtain⟨_,_,_,_,cur,cap,q1,q2,q3,q4,⟨A,q5,q6⟩,_⟩:=h4;exact⟨by omega,cur,cap,A,q1,q2,by simpa using q5,λhc=>by simpa using q6 hc⟩
def L3(d j:Nat):Nat:=1000*(d+1)+j
def St.bW (s:St) (d:Nat):Nat->List RV->List br×St
 |_,[]=>([],s)|j,r::rs=>((s.gb (L3 d j) r).1::((s.gb (L3 d j) r).2.bW d (j+1) rs).1,((s.gb (L3 d j) r).2.bW d (j+1) rs).2)
def Ow:br->Prop
 |.val _=>True|.view _ _ _ _=>True
 |_=>False
theorem JQ(s:St)(id:Nat)(r:RV):Ow (s.gb id r).1:=by cases r<;>trivial
theorem aC.bW (sn:∀B,base B->E.fresh w0 B) (sy:∀j j' B,bo j=some B->bo j'=some B->j=j') (d:Nat):∀(rs:List RV)(j:Nat)(s:St)(be:Nat->Option Nat)(vs:List Value),aC P E w0 I0 n s a w I be->(∀k B,bo k=some B->∀i,s.a i≠none->I.ar i≠some B)->
  vs.length=rs.length->(∀(k:Nat)(v:Value)(r:RV),vs[k]?=some v->rs[k]?=some r->lM P E w I base (bo (j+k)) v r)->(∀k,j<=k->∀B,bo k=some B->∀d',s.b d'≠none->be d'=some B->∃k',j<=k'/\d'=L3 d k')->
  (∀k,j<=k->∀B,bo k=some B->∀k',j<=k'->s.b (L3 d k')≠none->be (L3 d k')≠some B)->
  ∃iK,aC P E w0 I0 n (s.bW d j rs).2 a w I iK/\(s.bW d j rs).1.length=rs.length/\(∀(k:Nat)(v:Value)(r:br),vs[k]?=some v->(s.bW d j rs).1[k]?=some r->bD P w I iK (s.bW d j rs).2.b (s.bW d j rs).2.g v r/\Ow r)/\(∀v r',bD P w I be s.b s.g v r'->bD P w I iK (s.bW d j rs).2.b (s.bW d j rs).2.g v r')
 |[],j,s,be,vs,h,SN,hl,hr,hf,Mj=>⟨be,h,rfl,λk v r hk yQ=>by simp[St.bW]at yQ,λ_ _ h=>h⟩|r::rs,j,s,be,[],h,SN,hl,hr,hf,Mj=>by simp at hl
 |r::rs,j,s,be,v::vs,h,SN,hl,hr,hf,Mj=>by
  obtain⟨be1,h1,h2,h3,h4,h5⟩:=h.gb (L3 d j) (bo:=bo j) (hr 0 v r rfl rfl) sn (λB hB d' hd hn he=>by obtain⟨k',fM,rfl⟩:=hf j (aP _) B hB d' hn he;exact Mj j (aP _) B hB k' fM hn he) (SN j);have aaP:∀k k',k≠k'->L3 d k≠L3 d k':=λk k' h e=>by simp only[L3]at e;omega
  obtain⟨be2,g1,g2,g3,g4⟩:=aC.bW sn sy d rs (j+1) (s.gb (L3 d j) r).2 be1 vs h1 (by cases r<;>exact SN) (by simpa using hl)
   (λk v' r' hv yQ=>by have:=hr (k+1) v' r' (by simpa using hv) (by simpa using yQ);simpa[iU,jo 1]using this)
   (λk hk B hB d' hn he=>by
     by_cases e:d'=L3 d j
     ·subst e;rcases h5 with⟨q1,q2⟩|q
      ·rw[q1]at hn;rw[q2]at he;exact absurd he (Mj k (by omega) B hB j (aP _) hn)
      ·rw[q]at he;have:=sy k j B hB he;omega
     ·obtain ⟨q1,q2⟩:=h3 d' e;rw[q1]at he;rw[q2]at hn;obtain⟨k',fM,rfl⟩:=hf k (by omega) B hB d' hn he;exact absurd he (Mj k (by omega) B hB k' fM hn))
   (λk hk B hB k' fM hn he=>by obtain⟨q1,q2⟩:=h3 (L3 d k') (aaP _ _ (by omega));rw[q1]at he;rw[q2]at hn;exact Mj k (by omega) B hB k' (by omega) hn he)
  refine⟨be2,g1,by simp[St.bW,g2],λk v' r' hv yQ=>?_,λv r' h'=>g4 _ _ (h4 _ _ h')⟩;cases k with
  |zero=>simp[St.bW]at hv yQ;subst hv yQ;exact⟨g4 _ _ h2,JQ _ _ _⟩|succ k=>exact g3 k v' r' (by simpa using hv) (by simpa[St.bW]using yQ)
def St.take (s:St) (dst:Option Nat):List RV->St
 |[r]=>match dst with
  |some d=>((s.gb d r).2).put (some d) (s.gb d r).1|none=>s
 |rs=>match dst with
  |some d=>((s.bW d 0 rs).2).put (some d) (.fb (s.bW d 0 rs).1)|none=>s
theorem aC.take (h:aC P E w0 I0 n s a w I be) {rs:List RV} (hr:jr P E w I base bo v rs) (sy:∀j j' B,bo j=some B->bo j'=some B->j=j')
  (sn:∀B,base B->E.fresh w0 B) (pf:∀k B,bo k=some B->∀d',s.b d'≠none->be d'≠some B) (SN:∀k B,bo k=some B->∀i,s.a i≠none->I.ar i≠some B) (dst:Option Nat):∃iK,aC P E w0 I0 n (s.take dst rs) (a.put dst v) w I iK:=by
 have many:∀rs:List RV,(∃vs:Array Value,v=.tuple vs/\vs.size=rs.length/\∀(j:Nat)(r:RV),rs[j]?=some r->lM P E w I base (bo j) (vs.getD j undef) r)->∀d,∃iK,aC P E w0 I0 n (((s.bW d 0 rs).2).put (some d) (.fb (s.bW d 0 rs).1)) (a.put (some d) v) w I iK:=by
  rintro rs ⟨vs,rfl,hl,hj⟩ d;obtain⟨iK,g1,g2,g3,_⟩:=aC.bW sn sy d rs 0 s be vs.toList h SN (by simpa using hl) (λk v' r hv yQ=>by
    have:=hj k r yQ;rw[iW]at hv;simpa[hv]using this)
   (λk _ B hB d' hn he=>absurd he (pf k B hB d' hn)) (λk _ B hB k' _ hn=>pf k B hB _ hn)
  refine⟨iK,g1.put (some d) ⟨vs,rfl,by rw[g2];exact hl,λj r yQ=>?_⟩⟩;have pM:j<vs.size:=by rw[hl,<-g2];exact (aV.1 yQ).1
  have:=g3 j vs[j] r (by simp[pM]) yQ;have e:vs.getD j undef=vs[j]:=by simp[pM]
  rw[e];cases r with
  |val x=>exact this.1|view d gg off len=>exact this.1
  |none=>exact this.2.elim|full xs=>exact this.2.elim
  |loc d gg sz i k=>exact this.2.elim|fb rs=>exact this.2.elim
 match rs,hr with
 |[r],hr=>
  cases dst with
  |none=>exact ⟨be,h⟩|some d=>obtain⟨iK,h1,h2,_⟩:=h.gb d (bo:=bo 0) hr sn (λB hB d' _ hn=>pf 0 B hB d' hn) (SN 0);exact⟨iK,h1.put (some d) h2⟩
 |[],hr=>
  cases dst with
  |none=>exact ⟨be,h⟩|some d=>exact many [] hr d
 |r::r2::rs,hr=>
  cases dst with
  |none=>exact ⟨be,h⟩|some d=>exact many (r::r2::rs) hr d
def kH(P:Program)(E:Env)(w0:World)(I0:Cells)(n:Nat)(o:Oper)(s:St)(K:St->Prop)(X:AV->St->Prop):Prop:=∀a w,Rel P E w0 I0 n s a w->∀Qc:Exit->Act->World->Prop,(∀(x:AV)(v:Value)(s':St)(a':Act)(w':World)(I':Cells)(iK:Nat->Option Nat),X x s'->aC P E w0 I0 n s' a' w' I' iK->cj w' I' v x->Qc (.panic [{v:=v,recovered:=false}]) a' w')->o.wp P a w (λa' w'=>∃s',Rel P E w0 I0 n s' a' w'/\K s') Qc
def CP(out:Out)(K:List RV->Prop)(X:AV->Prop):Prop:=
 match out with
 |.ret rs=>K rs|.cG y=>X y
def de(s:St)(x:Operand):Option (FuncId×List AV):=
 match s.ev x with
 |.val (.fn f caps)=>some (f,caps)|_=>none
theorem SO{x:Operand}(ho:o.op=.call {callee:=.value x,args:=args,argTypes:=argTypes})(ax:aJ n o=true)(hf:de s x=some (f,caps))(hx:bK s args.toList=some xs)
  (fN:Go.Proofs.Enters P f) (hR:aC P E w0 I0 n s a w I be):∃vs:Array Value,(execOp a.eval o).run P w=.ok (.enter f vs) w/\mm w I vs.toList (xs++caps):=by
 have h1:=au ax (x:=x) (by simp[ho,Op.operands,Call.operands]) hR;have Ca:s.ev x=.val (.fn f caps):=by
  unfold de at hf;split at hf
  ·rename_i f' c' h;simp only[ah,aS]at hf;rw[h,hf.1,hf.2]
  ·cases hf
 rw[Ca]at h1;obtain⟨vs,e1,sk,SH⟩:∃vs:Array Value,a.eval x=.func (.func f) #[] vs/\vs.size=caps.length/\∀(j:Nat)(c:AV),caps[j]?=some c->cj w I (vs.getD j undef) c:=by
  have Ml:cj w I (a.eval x) (.fn f caps):=h1;generalize a.eval x=u at*;cases Ml with
  |fn f vs caps hl hr=>exact ⟨vs,rfl,hl,hr⟩
 have dg:=jK ax hR (ps:=args.toList) (λy hy=>by simp[ho,Op.operands,Call.operands];exact .inr (by simpa using hy)) hx;refine⟨(args.map a.eval)++vs,?_,by have:=dg.1;simp at this⊢;omega,λj v c hv hc=>?_⟩
 ·simp only[execOp,ho,resolve,e1,Deferred.ofValue,bJ,b9,bX,invoke,QH,fN ((args.map a.eval)++vs) w]
 ·have hal:(args.map a.eval).toList.length=xs.length:=by have:=dg.1;simpa using this
  simp only[SP]at hv;by_cases hj:j<xs.length
  ·rw[kf (by omega)]at hv;rw[kf hj]at hc;exact dg.2 j v c (by simpa using hv) hc
  ·rw[lF (by omega)]at hv;rw[lF (by omega)]at hc;have:=SH _ c hc;rw[hal,iW]at hv;simpa[hv]using this
theorem aC.ur (h:aC P E w0 I0 n s a w I be) (hE:E.fixed=false) (jX:∀i,E.ro i=none) {T:Nat->Prop} (h':er (E.cx s.a I) w I w' I') (hA:nQ P (E.cx s.a I) w w' I' a' u' T):aC P E w0 I0 n {s with a:=a',u:=u'} a w' I' be:=by
 have hlf:∀B,(E.cx s.a I).BK B->E.fresh w0 B/\∀d,s.b d≠none->be d≠some B:=λB hB=>by obtain⟨i,hi,ly⟩:=Env.eE.1 hB;obtain⟨q1,_,_,_,q5⟩:=h.aO.own i B hi ly;exact⟨q1,λd hd Fh=>q5 ⟨d,hd,Fh⟩⟩
 have hlI:∀p,I p->¬(E.cx s.a I).BK p.block:=λp hp hB=>by obtain⟨i,hi,ly⟩:=Env.eE.1 hB;exact(h.aO.own i _ hi ly).2.2.1 p hp rfl
 have hff:∀B,(E.cx s.a I).fresh w B->E.fresh w0 B:=λB hB=>by
  rcases hB with hB|hB
  ·exact .inl (dI h.since.size hB)
  ·exact (hlf B hB).1
 have hB:∀d B,s.b d≠none->be d=some B->w'.heap[B]?=w.heap[B]?:=λd B hd hB=>by obtain⟨_,h2,_,h4⟩:=h.own d B hd hB;exact h'.block B h2 h4 (λhl=>(hlf B hl).2 d hd hB)
 have hc:cH w w' I I':=⟨h'.more,h'.ar,λp v hp hv=>by rw[ct (h'.block p.block (h.since.lt p hp) (h.since.off p hp) (hlI p hp))];exact hv,h'.shape⟩
 have hd:∀d,s.g d<s.g d∨(s.g d=s.g d/\eu P w w' be be s.b s.b d):=λd=>.inr ⟨rfl,.ib rfl rfl (λB hn=>hB d B hn)⟩;have hs:er E w0 I0 w' I':=by
  refine⟨h'.os.trans h.since.os,h'.tape.trans h.since.tape,h'.output.trans h.since.output,dI h.since.size h'.size,λk hk hf Wu=>?_,λb hb=>?_,h'.inv,λp hp=>h'.more p (h.since.more p hp),λi B hi=>h'.ar i B (h.since.ar i B hi),λhx=>(by rw[hE]at hx;cases hx),λB=>(h.since.shape B).trans (h'.shape B),λp hp=>?_,h'.lt,h'.off⟩
  ·rw[h'.block k (gC hk h.since.size) (λJt=>by rcases h.since.bN k Jt with h1|h1;exact hf h1;omega) (λWv=>by
    rcases(hlf k Wv).1 with h1|h1
    ·omega
    ·exact Wu h1)]
   exact h.since.block k hk hf Wu
  ·rcases h'.bN b hb with h1|h1
   ·exact h.since.bN b h1
   ·exact .inr (dI h.since.size h1)
  ·rcases h'.new p hp with h1|h1
   ·exact h.since.new p h1
   ·exact .inr (hff _ h1)
 refine⟨hs,h.size,h.defers.mono hc,λt ht=>(h.cr t ht).dN hc hd,λd x hx=>(h.boxes d x hx).dN hc hd rfl (λB=>hB d B (by have bV:s.b d=some x:=hx;rw[bV];exact λh=>by cases h)),h.inj,λd B hd Fh=>?_,h.tie,⟨hA.obj,hA.inj,λi B hi ly=>?_,hA.un,λi x h=>(by rw[jX]at h;cases h)⟩⟩
 ·obtain ⟨h1,h2,h3,h4⟩:=h.own d B hd Fh;refine⟨h1,gC h2 h'.size,λp hp e=>?_,λhf=>?_⟩
  ·rcases h'.new p hp with h5|h5|h5
   ·exact h3 p h5 e
   ·omega
   ·rw[e]at h5;exact (hlf B h5).2 d hd Fh
  ·rcases h'.bN B hf with h5|h5
   ·exact h4 h5
   ·omega
 ·obtain ⟨q1,q2,q3,q4,_⟩:=hA.own i B hi ly;refine⟨hff B q1,q2,q3,q4,?_⟩;rintro⟨d,hd,Fh⟩;have:=(h.own d B hd Fh).2.1;rcases q1 with q1|q1
  ·omega
  ·exact (hlf B q1).2 d hd Fh
theorem sZ{x:Operand}(ho:o.op=.call {callee:=.value x,args:=args,argTypes:=argTypes})(ax:aJ n o=true)(hE:E.fixed=false)(jX:∀i,E.ro i=none)(hf:de s x=some (f,caps))(hx:bK s args.toList=some xs)
  (hs:nE P E f (xs++caps) s.a s.u out a' u') (hK:CP out (λrs=>K (({s with a:=a',u:=u'}:St).take o.dst rs)) (λy=>X y {s with a:=a',u:=u'})):kH P E w0 I0 n o s K X:=by
 rintro a w ⟨I,be,hR⟩ Qc hQ;obtain⟨fN,nF⟩:=hs;obtain⟨vs,cu,cY⟩:=SO ho ax hf hx fN hR;have hA0:nQ P (E.cx s.a I) w w I s.a s.u (λ_=>False):=⟨hR.aO.obj,hR.aO.inj,λi B hi ly=>by obtain⟨q1,q2,q3,q4,q5⟩:=hR.aO.own i B hi ly;exact⟨.inr (Env.eE.2 ⟨i,hi,ly⟩),q2,q3,q4,id⟩,hR.aO.un,λi x h=>by cases h⟩
 have hc:=nF w I vs hR.since.inv (λp hp=>⟨hR.since.lt p hp,hR.since.off p hp⟩) hA0 cY;unfold Oper.wp;rw[cu];simp only[vH];refine hc.mono λe w' hp=>?_;cases out with
 |ret rs=>
  obtain⟨v,I',bo,rfl,iX,lu,sy,sA,hA⟩:=hp;have lr:=hR.ur hE jX iX hA;have pf:∀k B,bo k=some B->∀d',s.b d'≠none->be d'≠some B:=λk B hB d' hn he=>by
   have h5:=(hR.own d' B hn he).2.1;rcases sA k B hB with h6|h6
   ·omega
   ·obtain ⟨i,hi,ly⟩:=Env.eE.1 h6;exact(hR.aO.own i B hi ly).2.2.2.2 ⟨d',hn,he⟩
  obtain⟨iK,h6⟩:=lr.take lu sy (λB hB=>by
   rcases hB with hB|hB
   ·exact .inl (dI hR.since.size hB)
   ·obtain ⟨i,hi,ly⟩:=Env.eE.1 hB;exact(hR.aO.own i B hi ly).1) pf (λk B hB i hi ly=>(hA.own i B hi ly).2.2.2.2 ⟨k,hB⟩) o.dst
  exact⟨_,⟨I',iK,h6⟩,hK⟩
 |cG y=>obtain⟨v,I',rfl,iX,dH,hA⟩:=hp;exact hQ y v _ a w' I' be hK (hR.ur hE jX iX hA) dH
theorem vI{x:Operand}(ho:o.op=.call {callee:=.value x,args:=args,argTypes:=argTypes})(ax:aJ n o=true)(hf:de s x=some (f,caps))(hx:bK s args.toList=some xs)
  (hs:oI P E f (xs++caps) out) (hK:CP out (λrs=>K (s.take o.dst rs)) (λy=>X y s)):kH P E w0 I0 n o s K X:=by
 rintro a w ⟨I,be,hR⟩ Qc hQ;obtain⟨fN,nF⟩:=hs;have h1:=au ax (x:=x) (by simp[ho,Op.operands,Call.operands]) hR;have Ca:s.ev x=.val (.fn f caps):=by
  unfold de at hf;split at hf
  ·rename_i f' c' h;simp only[ah,aS]at hf;rw[h,hf.1,hf.2]
  ·cases hf
 rw[Ca]at h1;obtain⟨vs,e1,sk,SH⟩:∃vs:Array Value,a.eval x=.func (.func f) #[] vs/\vs.size=caps.length/\∀(j:Nat)(c:AV),caps[j]?=some c->cj w I (vs.getD j undef) c:=by
  have Ml:cj w I (a.eval x) (.fn f caps):=h1;generalize a.eval x=u at*;cases Ml with
  |fn f vs caps hl hr=>exact ⟨vs,rfl,hl,hr⟩
 have dg:=jK ax hR (ps:=args.toList) (λy hy=>by simp[ho,Op.operands,Call.operands];exact .inr (by simpa using hy)) hx;have cY:mm w I ((args.map a.eval)++vs).toList (xs++caps):=by
  refine⟨by have:=dg.1;simp at this⊢;omega,λj v c hv hc=>?_⟩;have hal:(args.map a.eval).toList.length=xs.length:=by have:=dg.1;simpa using this
  simp only[SP]at hv;by_cases hj:j<xs.length
  ·rw[kf (by omega)]at hv;rw[kf hj]at hc;exact dg.2 j v c (by simpa using hv) hc
  ·rw[lF (by omega)]at hv;rw[lF (by omega)]at hc;have:=SH _ c hc;rw[hal,iW]at hv;simpa[hv]using this
 have hc:=nF w I ((args.map a.eval)++vs) hR.since.inv (λp hp=>⟨hR.since.lt p hp,hR.since.off p hp⟩) cY;have cu:(execOp a.eval o).run P w=.ok (.enter f ((args.map a.eval)++vs)) w:=by simp only[execOp,ho,resolve,e1,Deferred.ofValue,bJ,b9,bX,invoke,QH,fN ((args.map a.eval)++vs) w]
 unfold Oper.wp;rw[cu];simp only[vH];refine hc.mono λe w' hp=>?_;cases out with
 |ret rs=>
  obtain⟨v,I',bo,rfl,iX,lu,sy,sA,_⟩:=hp;have lr:=hR.called iX;have pf:∀k B,bo k=some B->∀d',s.b d'≠none->be d'≠some B:=λk B hB d' hn he=>by have h5:=(hR.own d' B hn he).2.1;have:=Env.fw (sA k B hB);omega
  obtain⟨iK,h6⟩:=lr.take lu sy (λB hB=>.inl (dI hR.since.size (Env.fw hB))) pf (λk B hB i hi ly=>by rw[iX.L1 rfl]at ly;have h5:=(hR.aO.own i B hi ly).2.1;have:=Env.fw (sA k B hB);omega) o.dst;exact⟨_,⟨I',iK,h6⟩,hK⟩
 |cG y=>obtain⟨v,I',rfl,iX,dH,_⟩:=hp;exact hQ y v s a w' I' be hK (hR.called iX) dH
end
section
variable{P:Program}{E:Env}{w0:World}{I0:Cells}{n:Nat}{o:Oper}{s:St}{K:St->Prop}{a:Act}{w w':World}{I I':Cells}{be:Nat->Option Nat}
end
section
variable{P:Program}{E:Env}{w0:World}{I0:Cells}{n:Nat}{o:Oper}{s:St}{K:St->Prop}{a:Act}{w w':World}{I I':Cells}{be:Nat->Option Nat}{b:Nat->Option Bx}{g:Nat->Nat}
theorem JR{ty:TypeId}{B q:Nat}{T:TypeId}{news:List Value}(ht:P.underlying t=some (.slice e))(hs:0<P.cellsOf e)(hw:w.heap[B]?=some (.cells cur T (0,0)))
   (hlen:(Builtin.lenOf v).run P w=.ok k w) (hm:m=min k len) (hf:(Builtin.firstCells (P.cellsOf e) m v).run P w=.ok news.toArray w) (h1:∀u∈news,u.oneCell'=true) (ga:q+news.length<=cur.size):
  (Builtin.copy_ #[t,u] ty #[.slice (some ⟨B,q,none⟩) len cap,v]).run P w=.ok (.int .i64 m) (w.setRow B (aR cur.toList q news).toArray):=by
 have mK:=run_storeCells_at P B q T news 0 cur w hw (by simpa using ga) h1;simp only[mL]at mK;have oF:Nat.min k len=m:=hm.symm;simp[Builtin.copy_,dr ht,hlen,oF,run_sizeOf rfl hs,hf,mK,goInt,aR]
theorem run_copy_none{ty:TypeId}(ht:P.underlying t=some (.slice e))(hs:0<P.cellsOf e)
   (hlen:(Builtin.lenOf v).run P w=.ok k w) (hf:(Builtin.firstCells (P.cellsOf e) 0 v).run P w=.ok #[] w):
  (Builtin.copy_ #[t,u] ty #[.slice A 0 cap,v]).run P w=.ok (.int .i64 0) w:=by
 have oF:Nat.min k 0=0:=Nat.min_eq_right (eC _);cases A<;>simp[Builtin.copy_,dr ht,hlen,run_sizeOf rfl hs,hf,goInt,storeCells]
theorem CQ{x:Operand}(ho:o.op=.call {callee:=.builtin .copy,args:=#[x,y],argTypes:=#[t,u]})(ax:aJ n o=true)(ht:dO P t=some e){ys:List AV}(hx:s.ev x=.view d gg off len)(hg:gg=s.g d)(hb:s.b d=some (.aT e xs))
  (hy:ic P s e (s.ev y)=some ys) (jk:gY P e ys)
  (hK:K (St.put {s with b:=bF s.b d (some (.aT e (aR xs off (ys.take (min ys.length len)))))} o.dst (.val (.fl (.int .i64 (min ys.length len:Nat)))))):Sound P E w0 I0 n o s K:=by
 rintro a w ⟨I,be,hR⟩ Qc;have h1:=au ax (x:=x) (by simp[ho,Op.operands,Call.operands]) hR;have h2:=au ax (x:=y) (by simp[ho,Op.operands,Call.operands]) hR;rw[hx]at h1;obtain⟨news,gT⟩:=yY hR h2 hy jk;have hu:=dv ht;have lC:=hR.boxes d _ hb;obtain⟨wX,qD,pH,sg⟩:=lC;obtain⟨hl,hv⟩:=nj h1 hg hb;obtain⟨cs,adN⟩:=fU ho a;have nothing:∀A c,len=0->a.eval x=.slice A len c->o.wp P a w (λa' w'=>∃s',Rel P E w0 I0 n s' a' w'/\K s') Qc:=by
  rintro A c rfl e1;have hf:=gT.cells w rfl 0 (eC _);simp only[rB,vG]at hf;have hr:=run_copy_none (P:=P) (w:=w) (t:=t) (u:=u) (ty:=o.type) (A:=A) (cap:=c) hu wX (gT.len w) hf;refine eA (v:=.int .i64 0) (w':=w) (by rw[adN];simp[builtin,e1,hr]) ⟨_,?_,hK⟩;have e2:aR xs off (ys.take (min ys.length 0))=xs:=by simp[aR]
  have e3:({s with b:=bF s.b d (some (.aT e xs))}:St)=s:=by
   have:bF s.b d (some (.aT e xs))=s.b:=by funext t;by_cases h:t=d<;>simp[bF,h,hb]
   rw[this]
  rw[e2,e3];exact⟨I,be,hR.put o.dst (v:=.int .i64 0) (r:=.val (.fl (.int .i64 ((min ys.length 0:Nat):Int)))) (by rw[Nat.min_zero];exact .fl _ rfl)⟩
 cases hB:be d with
 |none=>simp only[hB]at hv sg;obtain⟨A,e1⟩:=hv;subst sg;exact nothing A 0 (by simp at hl;omega) e1|some B=>
  simp only[hB]at hv sg;obtain⟨cur,cap,A,hw,jl,e1,hA⟩:=hv;obtain⟨fE,eY,qB,Cz,E1,Hs,dH⟩:=sg;rw[hw]at qB;injection qB with qB;injection qB with q1 q2;subst q1;have gy:eY=cap:=(o9 wX (jl.symm.trans Cz)).symm;subst gy;by_cases hoc:off<eY
  ·obtain rfl:=hA hoc;have adO:min ys.length len<=ys.length:=Nat.min_le_left _ _;have hf:=gT.cells w rfl (min ys.length len) adO;have WZ:(news.take (min ys.length len*P.cellsOf e)).length=min ys.length len*P.cellsOf e:=by rw[my,gT.size];have:=fK (P.cellsOf e) adO;omega
   have ahP:(off+min ys.length len)*P.cellsOf e<=eY*P.cellsOf e:=fK _ (by omega);have ga:off*P.cellsOf e+(news.take (min ys.length len*P.cellsOf e)).length<=cur.size:=by rw[WZ,jl,<-ew];exact ahP
   have hr:=JR (P:=P) (w:=w) (t:=t) (u:=u) (ty:=o.type) (len:=len) (cap:=eY-off) hu wX hw (gT.len w) rfl hf (λu hu=>gT.one u (CF hu)) ga;have dh:(aR cur.toList (off*P.cellsOf e) (news.take (min ys.length len*P.cellsOf e))).toArray.size=cur.size:=by rw[mN,bw (by simpa using ga)];simp
   have wZ:(ys.take (min ys.length len)).length=min ys.length len:=by simp
   have hfx:off+(ys.take (min ys.length len)).length<=xs.length:=by rw[wZ];omega
   have hlen:(aR xs off (ys.take (min ys.length len))).length=xs.length:=bw hfx;obtain⟨hkc,hkd⟩:=hR.xe d _ (.aT e (aR xs off (ys.take (min ys.length len)))) B hb hB cur _ e hw dh (.inr ⟨_,_,_,rfl,rfl,hlen⟩);have jV:=hR.gR d _ (.aT e (aR xs off (ys.take (min ys.length len)))) B hb hB cur _ e hw dh (.inr ⟨_,_,_,rfl,rfl,hlen⟩) ⟨wX,by rw[hlen];exact qD,λi2 x2 h2=>?_,?_⟩
   ·refine eA (v:=.int .i64 (min ys.length len:Nat)) (w':=w.setRow B (aR cur.toList (off*P.cellsOf e) (news.take (min ys.length len*P.cellsOf e))).toArray) (by rw[adN];simp[builtin,e1];rw[hr];rfl) ⟨_,⟨I,be,jV.put o.dst (r:=.val (.fl (.int .i64 (min ys.length len:Nat)))) (.fl _ rfl)⟩,hK⟩
   ·rw[cw hfx]at h2;split at h2
    ·exact pH _ _ h2
    ·split at h2
     ·rw[fZ]at h2;split at h2
      ·exact jk x2 (bC h2)
      ·cases h2
     ·exact pH _ _ h2
   ·simp only[hB];refine⟨_,eY,o7 w B cur _ e (0,0) hw,by rw[dh,jl],E1,by rw[hlen];exact Hs,λi2 j x2 c h2 h3=>?_⟩;refine cj.mono (w:=w) (I:=I) hkc ?_;rw[fu (by simpa using ga),WZ];rw[cw hfx,wZ]at h2;have pM:j<P.cellsOf e:=by
     have:x2.cells.length=P.cellsOf e:=by
      split at h2
      ·exact (pH _ _ h2).1
      ·split at h2
       ·rw[fZ]at h2;split at h2
        ·exact (jk x2 (bC h2)).1
        ·cases h2
       ·exact (pH _ _ h2).1
     rw[<-this];exact (aV.1 h3).1
    by_cases c1:i2<off
    ·rw[ap c1]at h2;have h4:(i2+1)*P.cellsOf e<=off*P.cellsOf e:=fK _ c1;rw[ew,kF]at h4;rw[ap (by omega)];exact dH _ _ _ _ h2 h3
    ·rw[ai c1]at h2;have h4:off*P.cellsOf e<=i2*P.cellsOf e:=fK _ (by omega);rw[ai (by omega)];by_cases c2:i2<off+min ys.length len
     ·rw[ap c2,fZ,ap (by omega)]at h2;have h5:(i2+1)*P.cellsOf e<=(off+min ys.length len)*P.cellsOf e:=fK _ c2;rw[ew,kF,ew]at h5;rw[ap (by omega)];have h6:=gT.rep _ j x2 c h2 h3;have e5:i2*P.cellsOf e+j-off*P.cellsOf e=(i2-off)*P.cellsOf e+j:=by rw[Nat.sub_mul];omega
      rw[e5,xf,fZ,ap (by rw[Nat.sub_mul];omega),<-xf];exact h6
     ·rw[ai c2]at h2;have h5:(off+min ys.length len)*P.cellsOf e<=i2*P.cellsOf e:=fK _ (by omega);rw[ew]at h5;rw[ai (by omega)];exact dH _ _ _ _ h2 h3
  ·exact nothing A _ (by omega) e1
def St.xo (s:St) (d d':Nat) (e:TypeId) (xs:List AV) (len:Nat):St:=(({s with b:=bF s.b d' none}:St)).bP d e (xs.take len)
theorem aC.xo (h:aC P E w0 I0 n s a w I be) (d d':Nat) (hv:bD P w I be s.b s.g v (.view d' gg 0 len)) (hg:gg=s.g d') (hb:s.b d'=some (.aT e xs)):
  ∃iK,aC P E w0 I0 n (s.xo d d' e xs len) (a.put (some d) v) w I iK:=by
 have uP:s.b d'≠none:=by simp[hb]
 obtain⟨wX,qD,pH,sg⟩:=h.boxes d' _ hb;obtain⟨hl,JJ⟩:=nj hv hg hb;have FR:=h.drop d';have hlen:(xs.take len).length=len:=by simp;omega
 have hx:fX P w I (bF be d (be d')) (bF (bF s.b d' none) d (some (.aT e (xs.take len)))) (bF s.g d (s.g d+1)) d (.aT e (xs.take len)):=by
  refine⟨wX,by rw[hlen];omega,λi x hi=>?_,?_⟩
  ·rw[fZ]at hi;split at hi
   ·exact pH _ _ hi
   ·cases hi
  ·rw[bA];cases hB:be d' with
   |none=>simp only[hB]at sg;subst sg;simp|some B=>
    simp only[hB]at sg;obtain⟨cur,cap,q1,q2,q3,q4,q5⟩:=sg;refine⟨cur,cap,q1,q2,q3,by rw[hlen];omega,λi j x c hi hc=>?_⟩;rw[fZ]at hi;split at hi
    ·exact q5 _ _ _ _ hi hc
    ·cases hi
 have sE:=FR.nC d (.aT e (xs.take len)) (be d') hx (λB hB=>by
  obtain⟨q1,q2,q3,q4⟩:=h.own d' B uP hB;refine⟨q1,q2,q3,q4,λd2 xh WT SG=>?_⟩;by_cases ed:d2=d'
  ·subst ed;simp at WT
  ·simp only[ay _ _ ed]at WT;exact ed (h.inj d2 d' _ WT uP SG hB)) (λB hB i hi ly=>(h.aO.own i B hi ly).2.2.2.2 ⟨d',uP,hB⟩)
 refine⟨bF be d (be d'),?_⟩;have hp:=sE.put (some d) (v:=v) (r:=.view d (s.g d+1) 0 len) ⟨by simp,λ_=>by
  unfold viewAt;simp only[bA];refine⟨by rw[hlen];omega,?_⟩;cases hB:be d' with
  |none=>simp only[hB]at JJ;exact JJ|some B=>simp only[hB]at JJ;obtain⟨cur,cap,A,q1,q2,q3,q4⟩:=JJ;exact⟨cur,cap,A,q1,q2,q3,q4⟩⟩
 unfold St.xo St.bP;rw[hlen];exact hp
theorem pQ{x:Operand}(ho:o.op=.assign x)(ax:aJ n o=true)(hd:o.dst=some d){d':Nat}(hx:s.ev x=.view d' gg 0 len)(hg:gg=s.g d')(hb:s.b d'=some (.aT e xs))(hK:K (s.xo d d' e xs len)):Sound P E w0 I0 n o s K:=by rintro a w ⟨I,be,hR⟩ Qc;have h1:=au ax (x:=x) (by simp[ho,Op.operands]) hR;rw[hx]at h1;obtain⟨iK,h2⟩:=hR.xo d d' h1 hg hb;exact eA (v:=a.eval x) (w':=w) (by simp[execOp,ho]) ⟨_,⟨I,iK,by rw[hd];exact h2⟩,hK⟩
end
section
variable{P:Program}{E:Env}{w0:World}{I0:Cells}{n:Nat}{s s':St}{a:Act}{w w':World}{I I':Cells}{be:Nat->Option Nat}{o:Oper}{K:St->Prop}
theorem MG(h:aC P E w0 I0 n s a w I be){cs:List AV}(ha:s.a i=some (.cells cs)){B:Nat}(hB:I.ar i=some B)(k:Nat):∃vs cur t,w.heap[B]?=some (.cells cur t (0,0))/\cur.size=cs.length/\lD w I ⟨B,k,none⟩ (cs.drop k) vs:=by
 obtain⟨B',q1,cur,t,q2,q3,q4⟩:=h.aO.obj i _ ha;rw[hB]at q1;injection q1 with q1;subst q1;have:lD w I ⟨B,0,none⟩ cs cur.toList:=by
  refine⟨by simpa using q3,λj v hj=>?_,λj v c hj hc=>?_⟩
  ·rw[dJ,cS,rr q2];simpa using hj
  ·have:=q4 j c hc;have WO:cur[j]?=some v:=by simpa using hj
   simpa[WO]using this
 have:=this.drop k;rw[dJ,cS]at this;exact⟨_,cur,t,q2,q3,this⟩
theorem Fi(h:aC P E w0 I0 n s a w I be)(ha:s.a i=some (.aT e xs)){B:Nat}(hB:I.ar i=some B){j:Nat}{x:AV}(hx:xs[j]?=some x):∃vs,lD w I ⟨B,j*P.cellsOf e,none⟩ x.cells vs:=by
 obtain⟨B',q1,q2⟩:=h.aO.obj i _ ha;rw[hB]at q1;injection q1 with q1;subst q1;have hb:fX P w I (λ_=>some B) (λ_=>none) (λ_=>0) 0 (.aT e xs):=by obtain⟨r1,r2,r3,r4⟩:=q2;exact⟨r1,r2,r3,r4⟩
 exact AB hb rfl hx
def FW(P:Program)(o:Oper)(s:St)(K:br->Prop):Prop:=
 match o.op with
 |.load t x=>match s.ev x with
  |.val (.ptr i off)=>match s.a i with
   |some (.cells cs)=>fC P t (cs.drop off) λv=>K (.val v)|some (.aT e xs)=>∃y,xs[off/P.cellsOf e]?=some y/\fC P t (y.cells.drop (off%P.cellsOf e)) λv=>K (.val v)
   |_=>False
  |_=>False
 |.fieldAddr t x f=>match s.ev x with
  |.val (.ptr i off)=>∃fo ft,lJ P t f=some (fo,ft)/\K (.val (.ptr i (off+fo)))|_=>False
 |.indexAddr t x y=>match s.ev x with
  |.val (.view i sz len)=>∃e k m,dO P t=some e/\s.ev y=.val (.fl (.int k m))/\(0<P.cellsOf e/\sz=P.cellsOf e/\0<=m/\m<len)/\K (.val (.ptr i (m.toNat*sz)))|_=>False
 |_=>False
theorem np(h:cj w I v (.ptr i off)):∃B,I.ar i=some B/\v=.pointer (some ⟨B,off,none⟩):=by
 cases h with
 |ptr i off B h=>exact ⟨B,h,rfl⟩
theorem QL{K:br->Prop}(ax:aJ n o=true)(h:FW P o s K):∃r,K r/\dm P E w0 I0 n o s r:=by
 unfold FW at h;cases ho:o.op<;>simp only[ho]at h;case load t x=>
  have ku:∀a w I be,aC P E w0 I0 n s a w I be->bD P w I be s.b s.g (a.eval x) (s.ev x):=λa w I be hR=>au ax (x:=x) (by simp[ho,Op.operands]) hR;split at h
  ·rename_i i off hx;split at h
   ·rename_i cs ha;obtain⟨y,h1,h2⟩:=kD h;refine⟨_,h1,λa w I be hR=>?_⟩;have hv:=ku a w I be hR;rw[hx]at hv;obtain⟨B,hB,e⟩:=np (show cj w I (a.eval x) (.ptr i off)from hv);obtain⟨vs,_,_,_,_,hc⟩:=MG hR ha hB off;obtain⟨v,z,q1,q2,q3⟩:=oC hc h2;refine⟨v,?_,by subst q3;exact q2⟩;simp[execOp,ho,e,Instr.loadAt,Instr.sureAddr,q1]
   ·rename_i e xs ha;obtain⟨y,hy,h⟩:=h;obtain⟨z,h1,h2⟩:=kD h;refine⟨_,h1,λa w I be hR=>?_⟩;have hv:=ku a w I be hR;rw[hx]at hv;obtain⟨B,hB,e1⟩:=np (show cj w I (a.eval x) (.ptr i off)from hv);obtain⟨vs,hc⟩:=Fi hR ha hB hy;have kA:=hc.drop (off%P.cellsOf e);rw[dJ,vy,Nat.div_add_mod]at kA;obtain⟨v,z',q1,q2,q3⟩:=oC kA h2;refine⟨v,?_,by subst q3;exact q2⟩;simp[execOp,ho,e1,Instr.loadAt,Instr.sureAddr,q1]
   ·exact h.elim
  ·exact h.elim
 case fieldAddr t x f=>
  split at h
  ·rename_i i off hx;obtain⟨fo,ft,h1,h2⟩:=h;obtain⟨fs,fd,hu,hf,rfl,rfl,hs⟩:=rD h1;refine⟨_,h2,λa w I be hR=>?_⟩;have hv:=au ax (x:=x) (by simp[ho,Op.operands]) hR;rw[hx]at hv;obtain⟨B,hB,e⟩:=np (show cj w I (a.eval x) (.ptr i off)from hv);refine⟨.pointer (some ⟨B,off+fd.offset,none⟩),?_,.ptr i _ B hB⟩;simp only[execOp,ho,e,bJ,sK hu hf hs,bX,b9,dJ]
  ·exact h.elim
 case indexAddr t x y=>
  split at h
  ·rename_i i sz len hx;obtain⟨e,k,m,h1,h2,⟨h3,h4,h5,h6⟩,h7⟩:=h;refine⟨_,h7,λa w I be hR=>?_⟩;have hv:=au ax (x:=x) (by simp[ho,Op.operands]) hR;have hw:=au ax (x:=y) (by simp[ho,Op.operands]) hR;rw[hx]at hv;rw[h2]at hw;have hw:=bR hw;have MH:cj w I (a.eval x) (.view i sz len):=hv;obtain⟨u,he⟩:∃u,a.eval x=u:=⟨_,rfl⟩
   rw[he]at MH;cases MH with
   |view i sz len B cap e' cur A hB hc hs hl hA=>obtain rfl:=hA (by omega);refine⟨.pointer (some ⟨B,m.toNat*sz,none⟩),?_,.ptr i _ B hB⟩;have:=run_indexAt_slice (dv h1) h3 ⟨B,0,none⟩ len cap k m h5 h6 w;simp only[execOp,ho,hw,bJ,bX,b9];rw[he,this,dJ,cS,h4];rfl|qv=>omega
  ·exact h.elim
end
end Go.Ev
