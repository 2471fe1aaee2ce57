import Derived.Scope
import Derived.Laws.IdiomStrings
import Derived.Orders
import Derived.Test.YtedadjfbbpjaiaaGreatZ2
set_option linter.all false
namespace Go.Ev
open Go
variable{t e t':TypeId}{K:br->Prop}{i d n off gg len j id k d':Nat}{xs args:List AV}{v:Value}{b:Bool}{c:Code}{fn:Func}{op:BinOp}{out:Out}{a':Nat->Option Ob}{u':Nat->Bool}{aB:Array Bool}{r:br}{s:St}{y:Operand}{lo hi mx:Option Operand}{a:Act}{E:Env}{w0:World}{I0:Cells}{f:FuncId}{X:AV->St->Prop}{be:Nat->Option Nat}{ops:Array Oper}{ob:Option Nat}{vs:Array Value}{g:Nat->Nat}{P:Program}{α:Type}
def qF(P:Program)(s:St)(t:TypeId)(r:br)(K:br->Prop):Prop:=
 match r with
 |.val (.ref cs)=>fC P t cs λv=>K (.val v)|.loc d gg sz i k=>gg=s.g d/\
  match s.b d with
  |some (.cells cs)=>iL P t (cs.drop (i*sz+k)) K|some (.aT e xs)=>sz=P.cellsOf e/\∃y,xs[i]?=some y/\fC P t (y.cells.drop k) λv=>K (.val v)
  |none=>False
 |_=>False
def kI(P:Program)(s:St)(t:TypeId)(f:Nat)(r:br)(K:br->Prop):Prop:=
 ∃off ft,lJ P t f=some (off,ft)/\
 match r with
 |.val (.ref cs)=>K (.val (.ref (cs.drop off)))|.loc d gg sz i k=>(gg=s.g d/\s.b d≠none)/\K (.loc d gg sz i (k+off))
 |_=>False
def kJ(P:Program)(s:St)(t:TypeId)(x y:br)(K:br->Prop):Prop:=
 ∃e,dO P t=some e/\0<P.cellsOf e/\
 match y with
 |.val (.fl (.int _ m))=>0<=m/\
  match x with
  |.val (.sl xs)=>∃z,xs[m.toNat]?=some z/\z.cells.length=P.cellsOf e/\K (.val (.ref z.cells))|.full xs=>∃z,xs[m.toNat]?=some z/\z.cells.length=P.cellsOf e/\K (.val (.ref z.cells))
  |.view d gg off len=>gg=s.g d/\(∃xs,s.b d=some (.aT e xs))/\m<len/\K (.loc d gg (P.cellsOf e) (off+m.toNat) 0)|_=>False
 |_=>False
def Fj(P:Program)(op:BinOp)(t:TypeId)(x y:br)(K:br->Prop)(G:Prop):Prop:=
 match x,y with
 |.val (.fl (.int k p)),.val (.fl (.int k' q))=>(k'=k∨lL op=true)/\∃v,sV op k p q=some v/\K (.val (.fl v))|.val (.fl (.bool p)),.val (.fl (.bool q))=>(P.underlying t=some .bool/\(op=.eql∨op=.neq))/\K (.val (.fl (.bool (if op=.eql then p==q else p !=q))))
 |_,_=>G
def jL(s:St)(x:Operand):Value:=(oH (s.ev x)).getD undef
def uZ(P:Program)(o:Oper)(s:St)(K:br->Prop):Prop:=∃v,(∀w,(execOp (jL s) o).run P w=.ok (.value v) w)/\(One v/\∀x∈o.op.operands,(oH (s.ev x)).isSome=true/\s.ev x≠.full [])/\K (.val (.fl v))
def kh(P:Program)(s:St)(t:TypeId)(xs:List AV)(lo hi mx:Option Operand)(K:br->Prop):Prop:=
 ∃e,dO P t=some e/\∃l q,nD s 0 lo=some l/\nD s xs.length hi=some q/\(0<P.cellsOf e/\(∀x∈xs,x.cells.length=P.cellsOf e)/\l<=q/\q<=xs.length)/\
  match mx with
  |none=>K (.val (.sl ((xs.drop l).take (q-l))))|some z=>hi.isSome=true/\nD s 0 (some z)=some q/\K (.full ((xs.drop l).take (q-l)))
def s7(P:Program)(s:St)(t:TypeId)(x:br)(lo hi mx:Option Operand)(K:br->Prop)(G:Prop):Prop:=
 match x with
 |.val (.sl xs)=>kh P s t xs lo hi mx K|.full xs=>kh P s t xs lo hi mx K
 |.view d gg off len=>mx=none/\∃e,dO P t=some e/\gg=s.g d/\(∃xs,s.b d=some (.aT e xs))/\∃l q,nD s 0 lo=some l/\nD s len hi=some q/\(l<=q/\q<=len)/\K (.view d gg (off+l) (q-l))|_=>G
def gx(P:Program)(o:Oper)(s:St)(K:br->Prop):Prop:=
 match o.op with
 |.move x=>K (s.ev x)|.pick c x y=>∃b,s.ev c=.val (.fl (.bool b))/\K (if b then s.ev x else s.ev y)
 |.load t x=>qF P s t (s.ev x) K|.fieldAddr t x f=>kI P s t f (s.ev x) K
 |.indexAddr t x y=>kJ P s t (s.ev x) (s.ev y) K|.extract x k=>∃rs r,s.ev x=.fb rs/\rs[k]?=some r/\K r
 |.field t x f=>∃off ft,lJ P t f=some (off,ft)/\∃cs,s.ev x=.val (.agg cs)/\fC P ft (cs.drop off) λv=>K (.val v)|.makeFunc (.func f) first caps=>first.toList=[]/\∃xs,bK s caps.toList=some xs/\K (.val (.fn f xs))
 |.makeInterface t x=>∃v,bh (s.ev x)=some v/\P.concrete t=true/\K (.val (.mI t v))|.build t parts=>∃pl,placesOf P t=some pl/\∃z,zeroOf P t=some z/\∃ps,partsOf s pl parts.toList=some ps/\(pl.all λp=>decide (p.1+p.2<=z.cells.length))=true/\K (.val (.agg (cW z.cells ps)))
 |.slice t x lo hi mx=>s7 P s t (s.ev x) lo hi mx K (mx=none/\P.underlying t=some .string/\∃xs,s.ev x=.val (.fl (bs xs))/\∃l h,nD s 0 lo=some l/\nD s xs.length hi=some h/\(l<=h/\h<=xs.length)/\K (.val (.fl (bs ((xs.drop l).take (h-l))))))|.index t x y=>P.underlying t=some .string/\∃l,s.ev x=.val (.fl (bs l))/\∃k m,s.ev y=.val (.fl (.int k m))/\0<=m/\∃c,l[m.toNat]?=some c/\K (.val (.fl (.int .u8 c.toNat)))
 |.binOp op t x y _=>Fj P op t (s.ev x) (s.ev y) K ((∃p q,s.ev x=.val (.fl (bs p))/\s.ev y=.val (.fl (bs q))/\∃v,mQ op p q=some v/\K (.val (.fl v)))∨uZ P o s K)|.unOp .not _ x=>∃p,s.ev x=.val (.fl (.bool p))/\K (.val (.fl (.bool (!p))))
 |.unOp .neg _ x=>∃k p,s.ev x=.val (.fl (.int k p))/\K (.val (.fl (.int k (k.wrap (0-p)))))|.convert _ _ _=>uZ P o s K
 |_=>False
section
variable{P:Program}{E:Env}{w0:World}{I0:Cells}{n:Nat}{o:Oper}{s:St}
theorem CR(ax:aJ n o=true)(aaQ:∀cs b,o.op≠.select cs b)(h:uZ P o s K):∃r,K r/\∀a w I be,aC P E w0 I0 n s a w I be->∃v,(execOp a.eval o).run P w=.ok (.value v) w/\bD P w I be s.b s.g v r:=by
 obtain⟨v,h1,⟨h2,h3⟩,h4⟩:=h;refine⟨_,h4,λa w I be hR=>⟨v,?_,.fl _ h2⟩⟩;have he:∀x∈o.op.operands,a.eval x=jL s x:=λx hx=>by
  have q1:=au ax hx hR;obtain⟨q2,q3⟩:=h3 x hx;obtain⟨u,hu⟩:=CG.1 q2;have q4:jL s x=u:=by simp[jL,hu]
  rw[q4];cases hr:s.ev x with
  |val y=>rw[hr]at q1 hu;exact Mz q1 hu|full ys=>
   rw[hr]at hu q3;cases ys with
   |nil=>exact absurd rfl q3|cons y ys=>simp[oH]at hu
  |_=>rw[hr]at hu;simp[oH]at hu
 rw[execOp_congr o aaQ he];exact h1 w
theorem td{x:Operand}(ho:o.op=.slice t x lo hi mx)(ax:aJ n o=true)(hx:bh (s.ev x)=some (.sl xs))(h:kh P s t xs lo hi mx K):∃r,K r/\dm P E w0 I0 n o s r:=by
 obtain⟨e,h1,l,h',h2,h3,⟨h4,h5,h6,h7⟩,h8⟩:=h;cases mx with
 |none=>exact ⟨_,h8,CK ho ax h1 h4 hx h5 h2 h3 h6 h7⟩|some z=>
  obtain⟨h9,tf,Hw⟩:=h8;cases hi with
  |none=>simp at h9|some y=>exact ⟨_,Hw,ze ho ax h1 h4 hx h5 h2 (by simpa[nD]using h3) tf h6 h7⟩
theorem Fk(ax:aJ n o=true)(h:gx P o s K):∃r,K r/\dm P E w0 I0 n o s r:=by
 unfold gx at h;cases ho:o.op<;>simp only[ho]at h;case move x=>exact ⟨_,h,Me ho ax⟩
 case pick c x y=>obtain⟨b,h1,h2⟩:=h;exact⟨_,h2,Mf ho ax h1⟩
 case load t x=>
  unfold qF at h;split at h
  ·rename_i cs hx;obtain⟨v,h1,h2⟩:=Cw (E:=E) (w0:=w0) (I0:=I0) ho ax hx h;exact⟨_,h1,h2⟩
  ·rename_i d gg sz i k hx;obtain⟨hg,h⟩:=h;split at h
   ·rename_i cs hb;exact yT ho ax hx hg hb h
   ·rename_i e xs hb;obtain⟨h1,y,h2,h3⟩:=h;obtain⟨v,h4,h5⟩:=Cy (E:=E) (w0:=w0) (I0:=I0) ho ax hx hg hb h1 h2 h3;exact⟨_,h4,h5⟩
   ·exact h.elim
  ·exact h.elim
 case fieldAddr t x f=>
  obtain⟨off,ft,h1,h2⟩:=h;obtain⟨fs,fd,hu,hf,rfl,rfl,hs⟩:=rD h1;split at h2
  ·rename_i cs hx;exact⟨_,h2,uQ ho ax hu hf hs hx⟩
  ·rename_i d gg sz i k hx;exact⟨_,h2.2,uR ho ax hu hf hs hx h2.1.1 h2.1.2⟩
  ·exact h2.elim
 case indexAddr t x y=>
  obtain⟨e,h1,h2,h3⟩:=h;split at h3
  ·rename_i k m hy;obtain⟨h4,h5⟩:=h3;split at h5
   ·rename_i xs hx;obtain⟨z,h6,h7,h8⟩:=h5;exact⟨_,h8,pa ho ax (dv h1) (by rw[hx];rfl) hy h4 h6 h2 h7⟩
   ·rename_i xs hx;obtain⟨z,h6,h7,h8⟩:=h5;exact⟨_,h8,pa ho ax (dv h1) (by rw[hx];rfl) hy h4 h6 h2 h7⟩
   ·rename_i d gg off len hx;obtain⟨h6,⟨xs,h7⟩,h8,h9⟩:=h5;exact⟨_,h9,sL ho ax (dv h1) hx h6 h7 hy h4 h8⟩
   ·exact h5.elim
  ·exact h3.elim
 case extract x k=>obtain⟨rs,r,h1,h2,h3⟩:=h;exact⟨_,h3,Fe ho ax h1 h2⟩
 case field t x f=>obtain⟨off,ft,h1,cs,h2,h3⟩:=h;obtain⟨v,h4,h5⟩:=JO (E:=E) (w0:=w0) (I0:=I0) ho ax h1 h2 h3;exact⟨_,h4,h5⟩
 case makeFunc fn first caps=>
  cases fn<;>simp only at h;obtain⟨h0,xs,h1,h2⟩:=h;have h0':first=#[]:=by simpa using h0
  subst h0';exact⟨_,h2,sT ho ax h1⟩
 case makeInterface t x=>obtain⟨v,h1,h2,h3⟩:=h;exact⟨_,h3,uT ho ax h2 h1⟩
 case build t parts=>obtain⟨pl,h1,z,h2,ps,h3,h4,h5⟩:=h;exact⟨_,h5,pO ho ax h1 (.WV h2) h4 h3⟩
 case slice t x lo hi mx=>
  unfold s7 at h;split at h
  ·rename_i xs hx;exact td ho ax (by rw[hx];rfl) h
  ·rename_i xs hx;exact td ho ax (by rw[hx];rfl) h
  ·rename_i d gg off len hx;obtain⟨rfl,e,h1,h2,⟨xs,h3⟩,l,h',h4,h5,⟨h6,h7⟩,h8⟩:=h;exact⟨_,h8,mP ho ax h1 hx h2 h3 h4 h5 h6 h7⟩
  ·obtain ⟨rfl,h1,xs,h2,l,h',h3,h4,⟨h5,h6⟩,h7⟩:=h;exact⟨_,h7,BU ho ax h1 h2 h3 h4 h5 h6⟩
 case index t x y=>obtain⟨h1,l,h2,k,m,h3,h4,c,h5,h6⟩:=h;exact⟨_,h6,BT ho ax h1 h2 h3 h4 h5⟩
 case binOp op t x y t'=>
  unfold Fj at h;split at h
  ·rename_i k p k' q hx hy;obtain⟨h1,v,h2,h3⟩:=h;exact⟨_,h3,BQ ho ax hx hy h1 h2⟩
  ·rename_i p q hx hy;exact⟨_,h.2,zf ho ax h.1.1 h.1.2 hx hy⟩
  ·rcases h with⟨p,q,h1,h2,v,h3,h4⟩|h
   ·exact ⟨_,h4,BR ho ax h1 h2 h3⟩
   ·exact CR ax (by simp[ho]) h
 case unOp op t x=>
  cases op<;>simp only at h
  ·obtain ⟨k,p,h1,h2⟩:=h;exact⟨_,h2,CN ho ax h1⟩
  ·obtain ⟨p,h1,h2⟩:=h;exact⟨_,h2,CM ho ax h1⟩
 case convert t t' x=>exact CR ax (by simp[ho]) h
def gD(P:Program)(o:Oper)(s:St)(K:br->Prop):Prop:=gx P o s K∨FW P o s K
theorem xp(ax:aJ n o=true)(h:gD P o s K):∃r,K r/\dm P E w0 I0 n o s r:=h.elim (Fk ax) (QL ax)
end
section
variable{P:Program}{E:Env}{w0:World}{I0:Cells}{n:Nat}{o:Oper}{s:St}{K:St->Prop}{a:Act}{w w':World}{I I':Cells}{be:Nat->Option Nat}
theorem aC.W5 (h:aC P E w0 I0 n s a w I be) {B:Nat} (h1:E.fresh w0 B) (h2:B<w.heap.size) (h3:¬E.bN w B) (h4:∀d,s.b d≠none->be d≠some B) (h5:∀i,s.a i≠none->I.ar i≠some B):aC P E w0 I0 n s a w (I.plus λp=>p.block=B) be:=h.stay B ⟨h1,h2,h3,h4⟩ h5
def nq(l:List UInt8):List AV:=l.map λc=>.fl (.int .u8 c.toNat)
theorem AJ{src dst:TypeId}{x:Operand}(ho:o.op=.convert src dst x)(ax:aJ n o=true)(hs:P.underlying src=some .string)(hd:P.underlying dst=some (.slice e))(he:P.underlying e=some (.int .u8)){l:List UInt8}(hx:s.ev x=.val (.fl (bs l)))(hl:l.length<=maxLen)
  (hK:K (s.put o.dst (.val (.sl (nq l))))):Sound P E w0 I0 n o s K:=by
 rintro a w ⟨I,be,hR⟩ Qc;have h1:=au ax (x:=x) (by simp[ho,Op.operands]) hR;rw[hx]at h1;have e1:=bR h1;have dh:(ByteArray.mk l.toArray).size=l.length:=by simp[ByteArray.size]
 have hr:=run_bytes_of_string w src dst e ⟨l.toArray⟩ hs hd he;rw[dh]at hr;obtain⟨cap,gy⟩:∃cap,grownCap w l.length 0 e=cap:=⟨_,rfl⟩
 have Oq:=grownCap_ge w l.length 0 e;have hle:=grownCap_le_maxLen w l.length 0 e hl;rw[gy]at hr Oq hle;obtain⟨row,vE⟩:∃row,bytesRow ⟨l.toArray⟩ cap=row:=⟨_,rfl⟩
 have jm:∀(i:Nat)(c:UInt8),l[i]?=some c->row[i]?=some (Value.int .u8 c.toNat):=λi c hi=>by have eK:=(aV.1 hi).1;rw[<-vE,bytesRow,aaR (by simpa using eK)];simp[hi]
 rw[vE]at hr;refine eA (v:=.slice (some ⟨w.heap.size,0,none⟩) l.length cap) (w':=w.drew.alloc (.cells row e (row.size,row.size+1))) (by simp[execOp,ho,e1,hr]) ⟨_,?_,hK⟩;obtain⟨lr,jd,⟨q1,q2,q3,q4,q5⟩,_,q6⟩:=hR.fresh (w':=w.drew.alloc (.cells row e (row.size,row.size+1))) (o:=.cells row e (row.size,row.size+1)) rfl rfl rfl rfl;have hR2:=lr.W5 (B:=w.heap.size) q1 q2 q4 q5 (q6 _ rfl);refine⟨_,be,hR2.put o.dst ?_⟩;refine cj.sl ⟨w.heap.size,0,none⟩ l.length cap 1 (nq l) (λi _=>row.getD i undef) (by simp[nq]) (by simpa[nq]using Oq) hle (λi x hx=>?_) (λi j x c hx hc=>?_) (λi j x c hx hc=>?_) (λi j x c hx hc=>?_)
 ·simp only[nq,dd,ck]at hx;obtain⟨c,_,rfl⟩:=hx;simp[AV.cells,AV.wf,AV.isAgg]
 ·simp only[nq,dd,ck]at hx;obtain⟨q,hq,rfl⟩:=hx;have hj:j=0:=by have:=(aV.1 hc).1;simp[AV.cells]at this;exact this
  subst hj;have h3:=jm i q hq;have e2:(Addr.mk w.heap.size 0 none).add (i*1+0)=⟨w.heap.size,i,none⟩:=by
   unfold Addr.add;split
   ·rename_i h0;have:i=0:=by omega
    subst this;rfl
   ·simp
  rw[e2];simp only[World.cell?,jd];simp[h3]
 ·right;unfold Addr.add;split<;>rfl
 ·simp only[nq,dd,ck]at hx;obtain⟨q,hq,rfl⟩:=hx;have hj:j=0:=by have:=(aV.1 hc).1;simp[AV.cells]at this;exact this
  subst hj;simp[AV.cells]at hc;subst hc;have h3:=jm i q hq;simp only[jI,h3,dB];exact .fl _ rfl
end
def AL:AV->br
 |.sl []=>.full []|v=>.val v
theorem AM(h:v.oneCell'=true):cf v=AL (dq v):=by
 cases v<;>first
  |rfl
  |(simp[Value.oneCell']at h;done)
  |(rename_i A l c
    cases A<;>cases l<;>cases c<;>rfl)
section
variable{P:Program}{E:Env}{w0:World}{I0:Cells}{n:Nat}{o:Oper}{s:St}
theorem u4(ht:P.underlying t=some (.slice e))(A:Option Addr)(n c:Nat)(w:World):(Op.equal t (.slice A n c) (.slice none 0 0)).run P w=.ok A.isNone w:=by
 have h:∀d:Nat,(Op.equalIn (d+1) t (.slice A n c) (.slice none 0 0)).run P w=.ok A.isNone w:=λd=>by cases A<;>simp[Op.equalIn,dr ht]
 exact h 9999
theorem AN{x:Operand}(ho:o.op=.panic x)(ax:aJ n o=true){K:St->Prop}{v:AV}(hx:s.ev x=.val (.mI t v))(hX:X (.mI t v) s):kH P E w0 I0 n o s K X:=by
 rintro a w ⟨I,be,hR⟩ Qc hQ;have h1:=au ax (x:=x) (by simp[ho,Op.operands]) hR;rw[hx]at h1;have Ml:cj w I (a.eval x) (.mI t v):=h1;unfold Oper.wp;generalize hv:a.eval x=u at*;cases Ml with
 |mI t u y hr=>
  have cu:(execOp a.eval o).run P w=.halt (.panic (.iface t u)) w:=by simp[execOp,ho,hv,Instr.panic]
  rw[cu];exact hQ _ _ s a w I be hX hR (.mI t u _ hr)
inductive bZ where
 |normal
 |exit (id:Nat)
 |goto (l:Nat)
 |ret
def lift(P:Program)(E:Env)(w0:World)(I0:Cells)(n:Nat)(Q:bZ->St->Prop)(X:AV->St->Prop):Exit->Act->World->Prop
 |.normal,a,w=>∃s,Rel P E w0 I0 n s a w/\Q .normal s|.exit id,a,w=>∃s,Rel P E w0 I0 n s a w/\Q (.exit id) s
 |.goto l,a,w=>∃s,Rel P E w0 I0 n s a w/\Q (.goto l) s|.ret,a,w=>∃s,Rel P E w0 I0 n s a w/\Q .ret s
 |.panic chain,a,w=>∃x v s I be,chain=[{v:=v,recovered:=false}]/\X x s/\aC P E w0 I0 n s a w I be/\cj w I v x|.outgrown,_,_=>False
def lz(P:Program)(E:Env)(w0:World)(I0:Cells)(n:Nat)(c:Code)(Q:bZ->St->Prop)(X:AV->St->Prop)(s:St):Prop:=∀a w,Rel P E w0 I0 n s a w->c.wp P (lift P E w0 I0 n Q X) a w
def gate(s:St)(t:Nat)(want:Bool):Option Bool:=
 match s.r t with
 |.val (.fl (.bool b))=>some (b==want)|.fb _=>some false
 |_=>none
theorem rF{w:World}{I:Cells}(hR:aC P E w0 I0 n s a w I be){t:Nat}{want:Bool}(eK:t<n)(hj:(ops[j]?).bind (·.dst)=some t)(hg:gate s t want=some b):(yielded ops a.tmps j==some want)=b:=by
 have hts:t<a.tmps.size:=by rw[hR.size];exact eK
 have hr:=hR.cr t eK;have e0:a.tmps.getD t undef=a.tmps[t]:=by simp[hts]
 rw[e0]at hr;unfold gate at hg;unfold yielded;rw[hj,aU,sW hts];split at hg
 ·rename_i b' hb;rw[hb]at hr;rw[bR hr];simp only[ah]at hg;subst hg;cases b'<;>cases want<;>rfl
 ·rename_i rs hb;rw[hb]at hr;obtain⟨vs,hv,_⟩:=hr;rw[hv];simp only[ah]at hg;subst hg;rfl
 ·cases hg
def gJ(n:Nat)(ops:Array Oper):Bool:=ops.all λo=>aJ n o&&match o.guard with
 |some (j,_)=>match(ops[j]?).bind (·.dst)with
  |some t=>decide (t<n)|none=>true
 |none=>true
variable{Q:bZ->St->Prop}{X:AV->St->Prop}
def bZ.then (next:St->Prop) (Q:bZ->St->Prop):bZ->St->Prop
 |.normal,s=>next s|e,s=>Q e s
theorem Cb{x y:Code}(h:∀K:St->Prop,(∀s,lz P E w0 I0 n y Q X s->K s)->lz P E w0 I0 n x (bZ.then K Q) X s):lz P E w0 I0 n (.seq x y) Q X s:=by
 intro a w hR;refine wp_seq (wp_mono (h _ (λ_ h=>h) a w hR) λe a' w' he=>?_);cases e with
 |normal=>obtain ⟨s',h1,h2⟩:=he;exact h2 a' w' h1|exit id=>exact he
 |goto l=>exact he|ret=>exact he
 |panic ch=>exact he|outgrown=>exact he
theorem SX(h:Q .normal s):lz P E w0 I0 n .skip Q X s:=λa w hR=>wp_skip ⟨s,hR,h⟩
theorem QM{l:Nat}(h:Q .normal s):lz P E w0 I0 n (.label l) Q X s:=λa w hR=>wp_label ⟨s,hR,h⟩
theorem SY(h:Q (.exit id) s):lz P E w0 I0 n (.exit id) Q X s:=λa w hR=>wp_exit ⟨s,hR,h⟩
theorem W6(h:Q .ret s):lz P E w0 I0 n .ret Q X s:=λa w hR=>wp_ret ⟨s,hR,h⟩
theorem SZ{c:Operand}{x y:Code}(hc:bI c=true/\∀t,c=.tmp t->t<n)(hb:s.ev c=.val (.fl (.bool b)))(h1:b=true->lz P E w0 I0 n x Q X s)(h2:b=false->lz P E w0 I0 n y Q X s):lz P E w0 I0 n (.cond c x y) Q X s:=by rintro a w ⟨I,be,hR⟩;have hr:=hR.ev c hc.1 hc.2;rw[hb]at hr;exact wp_cond_split (bR hr) (λh=>h1 h a w ⟨I,be,hR⟩) (λh=>h2 h a w ⟨I,be,hR⟩)
def bZ.inBlock (id:Nat) (Q:bZ->St->Prop):bZ->St->Prop
 |.exit Jv,s=>if Jv=id then Q .normal s else Q (.exit Jv) s|e,s=>Q e s
@[simp] theorem bZ.xt (id Jv:Nat):bZ.inBlock id Q (.exit Jv) s=if Jv=id then Q .normal s else Q (.exit Jv) s:=rfl
theorem QN(h:lz P E w0 I0 n c (bZ.inBlock id Q) X s):lz P E w0 I0 n (.block id c) Q X s:=by
 intro a w hR;refine wp_block (wp_mono (h a w hR) λe a' w' he=>?_);cases e with
 |normal=>exact he|exit Jv=>
  obtain⟨s',h1,h2⟩:=he;simp only[bZ.xt]at h2;simp only[Exit.inBlock];split
  ·rename_i hq;rw[ap hq]at h2;exact ⟨s',h1,h2⟩
  ·rename_i hq;rw[ai hq]at h2;exact ⟨s',h1,h2⟩
 |goto l=>exact he|ret=>exact he
 |panic ch=>exact he|outgrown=>exact he
theorem QO{c:Code}(h:lz P E w0 I0 n c (λe s=>match e with|.goto _=>False|e=>Q e s) X s):lz P E w0 I0 n (.scope c) Q X s:=by
 intro a w hR;refine wp_scope_straight (wp_mono (h a w hR) λe a' w' he=>?_);cases e with
 |normal=>exact he|exit id=>exact he
 |goto l=>obtain ⟨s',h1,h2⟩:=he;exact h2.elim|ret=>exact he
 |panic ch=>exact he|outgrown=>exact he
theorem CT(I:Nat->St->Prop)(m:Nat)(h0:I m s)(round:∀m s,I m s->lz P E w0 I0 n c (bZ.then (λs'=>∃m',m'<m/\I m' s') Q) X s):lz P E w0 I0 n (.loop c) Q X s:=by
 intro a w hR b k cs;have key:∀m s a w,I m s->Rel P E w0 I0 n s a w->
   ∃e a' w',lift P E w0 I0 n Q X e a' w'/\Arrives P (lone (b.at a (.code c::.inLoop c::k)) cs w) b k cs e a' w':=by
  intro m;induction m using Nat.strongRecOn with
  |_ m ih=>
   intro s a w hI hR;obtain⟨e,a₁,w₁,hq,jY⟩:=round m s hI a w hR b (.inLoop c::k) cs;cases e with
   |normal=>obtain⟨s₁,hR₁,m',eK,hI₁⟩:=hq;obtain⟨e₂,a₂,w₂,hq₂,S1⟩:=ih m' eK s₁ a₁ w₁ hI₁ hR₁;exact⟨e₂,a₂,w₂,hq₂,.of_steps (Steps.trans jY (.one step_inLoop)) S1⟩|exit id=>exact ⟨.exit id,a₁,w₁,hq,.pass (x:=.inLoop c) rfl (λ_ _=>.inl (by simp)) jY⟩|goto l=>exact ⟨.goto l,a₁,w₁,hq,.pass (x:=.inLoop c) rfl (λ_ _=>.inl (by simp)) jY⟩
   |ret=>exact ⟨.ret,a₁,w₁,hq,.pass (x:=.inLoop c) rfl (λ_ _=>.inl (by simp)) jY⟩|panic ch=>exact ⟨.panic ch,a₁,w₁,hq,.pass (x:=.inLoop c) rfl (λ_ _=>.inl (by simp)) jY⟩
   |outgrown=>exact hq.elim
 obtain⟨e,a',w',hq,jY⟩:=key m s a w h0 hR;exact⟨e,a',w',hq,.of_steps (.one step_loop) jY⟩
theorem xu{s':St}(h:∀a w,Rel P E w0 I0 n s a w->Rel P E w0 I0 n s' a w)(h':lz P E w0 I0 n c Q X s'):lz P E w0 I0 n c Q X s:=λa w hR=>h' a w (h a w hR)
end
def entry(args:List AV):St:={r:=λt=>((args.map br.val)[t]?).getD .none,b:=λ_=>none,g:=λ_=>0,a:=sY,u:=lN}
def vK(args:List AV)(a:Nat->Option Ob)(u:Nat->Bool):St:={r:=λt=>((args.map br.val)[t]?).getD .none,b:=λ_=>none,g:=λ_=>0,a:=a,u:=u}
def u5(P:Program)(s:St)(ob:Option Nat):br->RV->Prop
 |.val x,.v y=>y=x|.full xs,.v y=>y=.sl xs
 |.view d gg off len,.v y=>some d≠ob/\gg=s.g d/\∃e xs,s.b d=some (.aT e xs)/\y=.sl ((xs.drop off).take len)|.view d gg off len,.own e ys=>some d=ob/\gg=s.g d/\off=0/\∃xs,s.b d=some (.aT e xs)/\ys=xs.take len
 |.full xs,.own e ys=>xs=[]/\ys=[]/\0<P.cellsOf e|_,_=>False
def eU:RV->Bool
 |.own _ _=>true|_=>false
def xv(P:Program)(s:St)(t:TypeId)(r:br)(K:br->Prop):Prop:=
 match r with
 |.loc d gg sz i k=>match s.b d with
  |some (.cells cs)=>gg=s.g d/\iL P t (cs.drop (i*sz+k)) K|_=>False
 |_=>False
def gh(P:Program)(n:Nat)(s:St)(ob:Option Nat):List ResultVar->List RV->Prop
 |[],[]=>True|.tmp t::vars,r::rs=>t<n/\u5 P s ob (s.r t) r/\gh P n s ob vars rs
 |.cell c t::vars,r::rs=>c<n/\xv P s t (s.r c) (λx=>u5 P s ob x r)/\gh P n s ob vars rs|_,_=>False
def S2(P:Program)(fn:Func)(out:Out)(a':Nat->Option Ob)(u':Nat->Bool):bZ->St->Prop
 |.normal,s|.ret,s=>
  match out with
  |.ret rs=>(rs.filter eU).length<=1/\(s.df=[]/\s.a=a'/\s.u=u')/\∃ob,gh P fn.ntmps s ob fn.results.toList rs|.cG _=>False
 |_,_=>False
def Oy(out:Out)(a':Nat->Option Ob)(u':Nat->Bool)(y:AV)(s:St):Prop:=
 match out with
 |.ret _=>False|.cG x=>y=x/\s.df=[]/\s.a=a'/\s.u=u'
abbrev S3(P:Program)(fn:Func)(out:Out):bZ->St->Prop:=S2 P fn out sY lN
abbrev adT(out:Out):AV->St->Prop:=Oy out sY lN
section
variable{P:Program}{E:Env}{w0:World}{I0:Cells}{n:Nat}{s:St}{a:Act}{w:World}{I:Cells}{be:Nat->Option Nat}
def qe(I:Cells)(s:St)(be:Nat->Option Nat)(ob:Option Nat):Cells:=I.plus λp=>∃d B,some d≠ob/\s.b d≠none/\be d=some B/\p.block=B
theorem xw(h:aC P E w0 I0 n s a w I be)(ob:Option Nat):er E w0 I0 w (qe I s be ob):=
 h.since.step (w':=w) (I':=qe I s be ob) rfl rfl rfl (aP _) (λ_=>False) (λ_ _ _=>rfl) (λ_ hk=>hk.elim) (Shape.refl w) (λ_ h=>.inl h) rfl
  (by
    rintro p (hp|⟨d,B,_,hd,hB,rfl⟩)
    ·exact .inl hp
    ·obtain ⟨q1,q2,q3,q4⟩:=h.own d _ hd hB;exact .inr ⟨q1,q2,q4⟩)
def tg(be:Nat->Option Nat):br->RV->Option Nat
 |.view d _ _ _,.own _ _=>be d|_,_=>none
theorem QP(h:aC P E w0 I0 n s a w I be){rv:RV}(hr:bD P w I be s.b s.g v r)(FY:u5 P s ob r rv):lM P E w (qe I s be ob) (E.fresh w0) (tg be r rv) v rv:=by
 have S4:∀{v:Value}{x:AV},cj w I v x->cj w (qe I s be ob) v x:=λh=>h.mono (.plus _ _ _);cases r with
 |val x=>
  cases rv with
  |v y=>have e:y=x:=FY;subst e;exact S4 hr|own e ys=>exact FY.elim
 |full xs=>
  cases rv with
  |v y=>have e:y=.sl xs:=FY;subst e;exact S4 hr.1|own e ys=>
   obtain⟨rfl,rfl,h0⟩:=FY;obtain⟨A,rfl⟩:=hr.2;exact⟨h0,by simp,λx hx=>by simp at hx,rfl,A,rfl⟩
 |view d gg off len=>
  cases rv with
  |v y=>obtain⟨h1,h2,e,xs,h3,rfl⟩:=FY;have hb:=h.boxes d _ h3;exact o8 h3 hb (hr.2 h2) (.plus _ _ _) (λB hB p hp=>.inr ⟨d,B,h1,by simp[h3],hB,hp⟩)|own e ys=>
   obtain⟨h1,h2,rfl,xs,h3,rfl⟩:=FY;obtain⟨wX,qD,pH,sg⟩:=h.boxes d _ h3;obtain⟨hl,hv⟩:=nj hr h2 h3;have hlen:(xs.take len).length=len:=by simp;omega
   have jk:gY P e (xs.take len):=λx hx=>by obtain⟨i,hi⟩:=lK.1 (CF hx);exact pH i x hi
   refine⟨wX,by rw[hlen];omega,jk,?_⟩;simp only[tg];cases hB:be d with
   |none=>
    simp only[hB]at hv sg;subst sg;obtain⟨A,rfl⟩:=hv;have:len=0:=by simp at hl;omega
    subst this;exact⟨rfl,A,rfl⟩
   |some B=>
    simp only[hB]at hv sg;obtain⟨cur,cap,A,hw,jl,e1,hA⟩:=hv;obtain⟨fE,eY,qB,Cz,E1,Hs,dH⟩:=sg;rw[hw]at qB;injection qB with qB;injection qB with q1 q2;subst q1;have gy:eY=cap:=(o9 wX (jl.symm.trans Cz)).symm;subst gy;obtain⟨o1,o2,o3,o4⟩:=h.own d B (by simp[h3]) hB;refine⟨o1,o2,?_,o4,cur,eY,hw,jl,E1,by rw[hlen];omega,⟨A,by rw[hlen];simpa using e1,λhc=>by simpa using hA hc⟩,λi j x c hi hj=>?_⟩
    ·rintro p (hp|⟨d',B',sF,xh,hd3,rfl⟩)
     ·exact o3 p hp
     ·intro e2;exact sF (by rw[<-h1,h.inj d' d B xh (by simp[h3]) (by rw[hd3,e2]) hB])
    ·rw[fZ]at hi;split at hi
     ·exact S4 (dH i j x c hi hj)
     ·cases hi
 |none=>cases rv<;>exact FY.elim
 |loc d gg sz i k=>cases rv<;>exact FY.elim
 |fb rs=>cases rv<;>exact FY.elim
theorem CU:∀{rs:List RV},(rs.filter eU).length<=1->∀(j j':Nat)(r r':RV),rs[j]?=some r->rs[j']?=some r'->eU r=true->eU r'=true->j=j'
 |[],_,j,j',r,r',h,_,_,_=>by simp at h|x::rs,hl,j,j',r,r',h1,h2,h3,h4=>by
  by_cases hx:eU x=true
  ·have h0:(rs.filter eU)=[]:=by simp only[CV,hx,bp,dE]at hl;exact xc (by omega)
   have no:∀(k:Nat)(y:RV),rs[k]?=some y->eU y=true->False:=λk y hk hy=>by have:y∈rs.filter eU:=List.mem_filter.2 ⟨bC hk,hy⟩;rw[h0]at this;cases this
   cases j with
   |zero=>cases j' with
    |zero=>rfl|succ j'=>exact (no j' r' (by simpa using h2) h4).elim
   |succ j=>exact (no j r (by simpa using h1) h3).elim
  ·have jq:(rs.filter eU).length<=1:=by simpa[CV,hx]using hl
   cases j with
   |zero=>simp at h1;subst h1;exact absurd h3 hx|succ j=>cases j' with
    |zero=>simp at h2;subst h2;exact absurd h4 hx|succ j'=>rw[CU jq j j' r r' (by simpa using h1) (by simpa using h2) h3 h4]
def CW(tmps:Array Value):ResultVar->Sem Value
 |.tmp t=>pure (tmps.getD t undef)|.cell a t=>do loadVar t (<-asAddr (tmps.getD a undef))
theorem nX(h:aC P E w0 I0 n s a w I be){ob:Option Nat}:∀{vars:List ResultVar}{rs:List RV},gh P n s ob vars rs->
  ∃(vs:List Value)(xs:List br),(vars.mapM (CW a.tmps)).run P w=.ok vs w/\vs.length=rs.length/\xs.length=rs.length/\∀(j:Nat)(rv:RV),rs[j]?=some rv->∃v x,vs[j]?=some v/\xs[j]?=some x/\bD P w I be s.b s.g v x/\u5 P s ob x rv
 |[],[],_=>⟨[],[],rfl,rfl,rfl,λj rv h=>by simp at h⟩|.tmp t::vars,r::rs,hr=>by
  obtain⟨h1,h2,h3⟩:=hr;obtain⟨vs,xs,g1,g2,g3,g4⟩:=nX h h3;refine⟨a.tmps.getD t undef::vs,s.r t::xs,?_,by simp[g2],by simp[g3],λj rv hj=>?_⟩
  ·simp only[List.mapM_cons,CW,bJ,b9,bX,g1]
  ·cases j with
   |zero=>simp at hj;subst hj;exact ⟨_,_,rfl,rfl,h.cr t h1,h2⟩|succ j=>exact g4 j rv (by simpa using hj)
 |.cell c t::vars,r::rs,hr=>by
  obtain⟨h1,h2,h3⟩:=hr;obtain⟨vs,xs,g1,g2,g3,g4⟩:=nX h h3;unfold xv at h2;split at h2
  ·rename_i d gg sz i k hq;split at h2
   ·rename_i cs hb;obtain⟨hg,hK⟩:=h2;obtain⟨y,hy,cI⟩:=rz hK;have h4:=h.cr c h1;rw[hq]at h4;obtain⟨B,hB,e1⟩:=h4.2 hg (by simp[hb]);obtain⟨cur,t',hw,hs,lq⟩:=Cx (h.boxes d _ hb) hB (i*sz+k);obtain⟨v,x,cu,dH,rfl⟩:=sJ lq cI;refine⟨v::vs,x::xs,?_,by simp[g2],by simp[g3],λj rv hj=>?_⟩
    ·simp only[List.mapM_cons,CW,bJ,b9,bX,e1,asAddr,cu,g1]
    ·cases j with
     |zero=>simp at hj;subst hj;exact ⟨_,_,rfl,rfl,dH,hy⟩|succ j=>exact g4 j rv (by simpa using hj)
   ·exact h2.elim
  ·exact h2.elim
 |[],_::_,h=>by cases h
 |.tmp _::_,[],h=>by cases h
 |.cell _ _::_,[],h=>by cases h
theorem JT{tmps:Array Value}{vs:List Value}(hm:(fn.results.toList.mapM (CW tmps)).run P w=.ok vs w):(results fn tmps).run P w=.ok (if h:vs.toArray.size=1 then vs.toArray[0]else .tuple vs.toArray) w:=by
 have e:results fn tmps=(do
  let vs<-fn.results.mapM (CW tmps)
  pure (if h:vs.size=1 then vs[0]else .tuple vs)):=rfl
 rw[e,Array.mapM_eq_mapM_toList];simp only[bJ,Sem.run_map];rw[hm];rfl
theorem S5{rs:List RV}(h:aC P E w0 I0 fn.ntmps s a w I be)(qH:(rs.filter eU).length<=1)(hr:gh P fn.ntmps s ob fn.results.toList rs):
  ∃v,(results fn a.tmps).run P w=.ok v w/\∃bo,(jr P E w (qe I s be ob) (E.fresh w0) bo v rs/\(∀j j' B,bo j=some B->bo j'=some B->j=j')/\∀j B,bo j=some B->E.fresh w0 B)/\∀j B,bo j=some B->∃d,some d=ob/\s.b d≠none/\be d=some B:=by
 obtain⟨vs,xs,hm,hl,hlx,hj⟩:=nX h hr;have cu:=JT hm;let bo:Nat->Option Nat:=λj=>match xs[j]?,rs[j]? with
  |some x,some rv=>tg be x rv|_,_=>none
 have dH:∀(j:Nat)(rv:RV),rs[j]?=some rv->∃v,vs[j]?=some v/\lM P E w (qe I s be ob) (E.fresh w0) (bo j) v rv:=by intro j rv FY;obtain⟨v,x,hv,hx,W8,Se⟩:=hj j rv FY;refine⟨v,hv,?_⟩;simp only[bo,hx,FY];exact QP h W8 Se
 have sy:∀j j' B,bo j=some B->bo j'=some B->j=j':=by
  intro j j' B h1 h2;have own:∀j,bo j=some B->∃rv,rs[j]?=some rv/\eU rv=true:=by
   intro j hb;simp only[bo]at hb;split at hb
   ·rename_i x rv hx FY;refine⟨rv,FY,?_⟩;cases x<;>cases rv<;>simp[tg]at hb<;>rfl
   ·cases hb
  obtain⟨r1,q1,q2⟩:=own j h1;obtain⟨r2,q3,q4⟩:=own j' h2;exact CU qH j j' r1 r2 q1 q3 q2 q4
 have sA:∀j B,bo j=some B->∃d,some d=ob/\s.b d≠none/\be d=some B:=by
  intro j B hb;simp only[bo]at hb;split at hb
  ·rename_i x rv hx FY;obtain⟨v,x',hv,bV,W8,Se⟩:=hj j rv FY;rw[hx]at bV;injection bV with bV;subst bV;cases x<;>cases rv<;>simp[tg]at hb;rename_i d gg off len e ys;obtain⟨h1,_,_,xs,h3,_⟩:=Se;exact⟨d,h1,by simp[h3],hb⟩
  ·cases hb
 refine⟨_,cu,bo,⟨?_,sy,λj B hb=>by obtain⟨d,_,hd,hB⟩:=sA j B hb;exact(h.own d B hd hB).1⟩,sA⟩;have many:rs.length≠1->∃us:Array Value,(if h:vs.toArray.size=1 then vs.toArray[0]else .tuple vs.toArray)=.tuple us/\us.size=rs.length/\∀(j:Nat)(r:RV),rs[j]?=some r->lM P E w (qe I s be ob) (E.fresh w0) (bo j) (us.getD j undef) r:=by
  intro dA;rw[dif_neg (by simp;omega)];refine⟨_,rfl,by simp[hl],λj r hr=>?_⟩;obtain⟨v,hv,FY⟩:=dH j r hr;have:vs.toArray.getD j undef=v:=by simp only[jI,FQ,hv,dB]
  rw[this];exact FY
 match rs,dH,many with
 |[r],dH,_=>
  obtain⟨v,hv,FY⟩:=dH 0 r rfl;have h1:vs.length=1:=by rw[hl];rfl
  have h2:vs=[v]:=by
   match vs,h1,hv with
   |[x],_,ht=>simp at ht;rw[ht]
  rw[fO (by simp[h1])];have e:vs.toArray[0]'(by simp[h1])=v:=by simp[h2]
  rw[e];exact FY
 |[],_,many=>exact many (by simp)|r1::r2::rs,_,many=>exact many (by simp)
theorem xx(h:aC P E w0 I0 n s a w I be)(ob:Option Nat){T:Nat->Prop}(hT:∀B,T B->∃d,s.b d≠none/\be d=some B):nQ P E w0 w (qe I s be ob) s.a s.u T:=h.fY (.plus _ _ _) rfl (λ_=>False) (λ_ _ _ _ h=>h) (λ_ _ _=>rfl) (aP _) (λ_ h=>h.elim) (λp hp=>hp.imp id λ⟨d,B,_,hd,hB,e⟩ i hi ly=>(h.aO.own i _ hi ly).2.2.2.2 ⟨d,hd,by rw[hB,e]⟩) (λB hB=>.inl (hT B hB))
theorem xy(h:Rel P E w0 I0 fn.ntmps s a w)(hq:S2 P fn out a' u' .ret s):a.defers=[]/\∃v,(results fn a.tmps).run P w=.ok v w/\Hu P E w0 I0 w a' u' out (.returned v):=by
 obtain⟨I,be,hR⟩:=h;cases out with
 |cG x=>exact hq.elim|ret rs=>obtain⟨qH,⟨hd,rfl,rfl⟩,ob,lu⟩:=hq;obtain⟨v,h1,bo,⟨h2,h3,h4⟩,h5⟩:=S5 hR qH lu;have E5:=hR.defers;rw[hd]at E5;exact⟨E5.of_nil,v,h1,v,qe I s be ob,bo,rfl,xw hR ob,h2,h3,h4,xx hR ob λB ⟨j,hB⟩=>by obtain⟨d,_,q2,q3⟩:=h5 j B hB;exact⟨d,q2,q3⟩⟩
theorem HA{x:AV}(hR:aC P E w0 I0 n s a w I be)(hv:cj w I v x)(hq:Oy out a' u' x s):a.defers=[]/\Hu P E w0 I0 w a' u' out (.panicked [{v:=v,recovered:=false}]):=by
 cases out with
 |ret rs=>exact hq.elim|cG y=>obtain⟨rfl,hd,rfl,rfl⟩:=hq;have E5:=hR.defers;rw[hd]at E5;exact⟨E5.of_nil,v,qe I s be none,rfl,xw hR none,hv.mono (.plus _ _ _),xx hR none λB h=>h.elim⟩
theorem vL{n:Nat}{b:Nat->Option Bx}(dg:mm w I vs.toList args)(t:Nat):bD P w I be b g ((vs++Array.replicate n undef).getD t undef) (((args.map br.val)[t]?).getD .none):=by
 have AO:vs.size=args.length:=by simpa using dg.1
 by_cases hta:t<args.length
 ·have h1:(args.map br.val)[t]?=some (.val args[t]):=by simp[hta]
  rw[h1];have h2:vs.toList[t]?=some vs[t]:=by simp[AO,hta]
  have h3:=dg.2 t vs[t] args[t] h2 (by simp[hta]);have h4:(vs++Array.replicate n undef).getD t undef=vs[t]:=by simp only[jI];rw[aaR (by omega),sW (by omega)];rfl
  rw[h4];exact h3
 ·have h1:(args.map br.val)[t]?=none:=by simp;omega
  rw[h1];trivial
theorem FZ{E:Env}{w0:World}{I0:Cells}{s:St}(hf:P.funcs[f]?=some fn)(hb:fn.body=some c)
  (hR:Rel P E w0 I0 fn.ntmps s {tmps:=vs++Array.replicate (fn.ntmps-vs.size) undef,defers:=[]} w0)
  (h:lz P E w0 I0 fn.ntmps c (S2 P fn out a' u') (Oy out a' u') s):Calls P f vs w0 λe w=>Hu P E w0 I0 w a' u' out e:=by
 refine calls_of_wp hf hb (wp_mono (h _ _ hR) λe a w he=>?_);cases e with
 |normal=>obtain ⟨s,hR,hq⟩:=he;exact xy hR hq|ret=>obtain ⟨s,hR,hq⟩:=he;exact xy hR hq
 |panic chain=>obtain⟨x,v,s,I,be,rfl,h1,h2,h3⟩:=he;exact HA h2 h3 h1|exit id=>obtain ⟨s,_,hq⟩:=he;exact hq.elim|goto l=>obtain ⟨s,_,hq⟩:=he;exact hq.elim
 |outgrown=>exact he.elim
theorem AP(hf:P.funcs[f]?=some fn)(kj:(fn.name== "runtime.NumGoroutine")=false)(hb:fn.body=some c)(hn:args.length<=fn.ntmps)
  (h:∀w0 I0,lz P E.plain w0 I0 fn.ntmps c (S3 P fn out) (adT out) (entry args)):oI P E f args out:=by
 refine⟨Go.Proofs.enters_of hf kj hb,λw0 I0 vs hinv hI dg=>?_⟩;have AO:vs.size=args.length:=by simpa using dg.1
 refine FZ hf hb ⟨I0,λ_=>none,?_⟩ (h w0 I0);exact⟨er.refl hinv hI,by simp;omega,.nil,λt ht=>vL dg t,λd x hx=>by simp[entry]at hx,λd d' B hd=>by simp[entry]at hd,λd B hd=>by simp[entry]at hd,λd B h=>(by cases h),nQ.none λ_=>rfl⟩
theorem HB{a:Nat->Option Ob}{u:Nat->Bool}(hf:P.funcs[f]?=some fn)(kj:(fn.name== "runtime.NumGoroutine")=false)(hb:fn.body=some c)(hn:args.length<=fn.ntmps)
  (h:∀w0 I0,lz P (E.cx a I0) w0 I0 fn.ntmps c (S2 P fn out a' u') (Oy out a' u') (vK args a u)):nE P E f args a u out a' u':=by
 refine⟨Go.Proofs.enters_of hf kj hb,λw0 I0 vs hinv hI hA dg=>?_⟩;have AO:vs.size=args.length:=by simpa using dg.1
 refine FZ hf hb ⟨I0,λ_=>none,?_⟩ (h w0 I0);refine⟨er.refl (E:=E.cx a I0) hinv hI,by simp;omega,.nil,λt ht=>vL dg t,λd x hx=>by simp[vK]at hx,λd d' B hd=>by simp[vK]at hd,λd B hd=>by simp[vK]at hd,λd B _ _ h=>by simp[vK]at h,hA.obj,hA.inj,λi B hi hB=>?_,hA.un,λi x h=>by cases h⟩;obtain⟨q1,q2,q3,q4,_⟩:=hA.own i B hi hB;exact⟨q1,q2,q3,q4,λ⟨d,hd,_⟩=>by simp[vK]at hd⟩
end
inductive qI(ops:Array Oper):Nat->Nat->Prop
 |aaT (k:Nat) (o:Oper) (e:Edge) (h:ops[k]?=some o) (he:e∈o.after) (hb:Region.binds .any e=true):qI ops k e.on
 |trans (k:Nat) (o:Oper) (e:Edge) (i:Nat) (h:ops[k]?=some o) (he:e∈o.after) (hb:Region.binds .any e=true) (h2:qI ops e.on i):qI ops k i
theorem CX{ops:Array Oper}{k:Nat}{o:Oper}(ho:ops[k]?=some o)(acc:Array Nat)(MK:∀(q i:Nat),(acc.getD q 0).testBit i=true->qI ops q i):∀(l:List Edge)(m:Nat),(∀e∈l,e∈o.after)->(∀i,m.testBit i=true->qI ops k i)->
  ∀i,(l.foldl (λs e=>if Region.binds .any e then s|||2^e.on|||acc.getD e.on 0 else s) m).testBit i=true->qI ops k i
 |[],m,_,hm,i,h=>hm i h|e::l,m,hl,hm,i,h=>by
  simp only[AG]at h;refine CX ho acc MK l _ (λe' zg=>hl e' (by simp[zg])) (λi' BV=>?_) i h;split at BV
  ·rename_i hb;simp only[Nat.testBit_or,lP]at BV;rcases BV with(BV|BV)|BV
   ·exact hm i' BV
   ·have:i'=e.on:=by rw[ML]at BV;simpa using(eF BV).symm
    subst this;exact .aaT k o e ho (hl e (by simp)) hb
   ·exact .trans k o e i' ho (hl e (by simp)) hb (MK _ _ BV)
  ·exact hm i' BV
theorem rG(h:((Region.before ops).getD k 0).testBit i=true):qI ops k i:=by
 have key:∀(l:List Oper)(acc:Array Nat),(∀j,l[j]?=ops[acc.size+j]?)->(∀(q i:Nat),(acc.getD q 0).testBit i=true->qI ops q i)->
   ∀(q i:Nat),((l.foldl (λacc(o:Oper)=>acc.push (o.after.foldl (λs e=>if Region.binds .any e then s|||2^e.on|||acc.getD e.on 0 else s) 0)) acc).getD q 0).testBit i=true->qI ops q i:=by
  intro l;induction l with
  |nil=>intro acc _ MK q i h;exact MK q i h|cons o l ih=>
   intro acc hl MK q i h;simp only[AG]at h;refine ih _ (λj=>by have:=hl (j+1);simpa[iU,jo 1]using this) (λq i h=>?_) q i h;by_cases hq:q<acc.size
   ·have:(acc.push (o.after.foldl (λs e=>if Region.binds .any e then s|||2^e.on|||acc.getD e.on 0 else s) 0)).getD q 0=acc.getD q 0:=by simp only[jI,JG,ai (Nat.ne_of_lt hq)]
    rw[this]at h;exact MK q i h
   ·by_cases Ww:q=acc.size
    ·subst Ww;have ho:ops[acc.size]?=some o:=by simpa using(hl 0).symm
     have:(acc.push (o.after.foldl (λs e=>if Region.binds .any e then s|||2^e.on|||acc.getD e.on 0 else s) 0)).getD acc.size 0=o.after.foldl (λs e=>if Region.binds .any e then s|||2^e.on|||acc.getD e.on 0 else s) 0:=by simp[jI]
     rw[this,<-aaN]at h;exact CX ho acc MK o.after.toList 0 (λe he=>by simpa using he) (λi h=>by simp at h) i h
    ·have:(acc.push (o.after.foldl (λs e=>if Region.binds .any e then s|||2^e.on|||acc.getD e.on 0 else s) 0)).getD q 0=0:=by simp only[jI];rw[F0 (by simp;omega)];rfl
     rw[this]at h;simp at h
 unfold Region.before at h;rw[<-aaN]at h;exact key ops.toList #[] (λj=>by simp) (λq i h=>by simp at h) k i h
section
variable{P:Program}{E:Env}{w0:World}{I0:Cells}{n:Nat}{o:Oper}{s:St}
theorem QS{x y:br}{G:Prop}(h1:∀k p k' q,x=.val (.fl (.int k p))->y=.val (.fl (.int k' q))->False)(h2:∀p q,x=.val (.fl (.bool p))->y=.val (.fl (.bool q))->False)(h:G):Fj P op t x y K G:=by
 unfold Fj;split
 ·exact (h1 _ _ _ _ rfl rfl).elim
 ·exact (h2 _ _ rfl rfl).elim
 ·exact h
end
section
variable{P:Program}{E:Env}{o:Oper}{s s':St}
end
inductive S8 where
 |val (r:br)
 |cells (cs:List br)
 |box (d:Nat) (x:Bx)
section
variable{P:Program}{E:Env}{o:Oper}{s s':St}{e:S8}
end
def fm(ops:Array Oper)(o:Oper)(s:St):Option Bool:=
 match o.guard with
 |none=>some true|some (j,want)=>match(ops[j]?).bind (·.dst)with
  |some t=>gate s t want|none=>none
section
variable{P:Program}{E:Env}{ops:Array Oper}{o oi oj:Oper}{s s':St}{e ei ej:S8}
end
def vN(ops:Array Oper)(aB:Array Bool):Prop:=∀k o,ops[k]?=some o->aB.getD k true=true->∀e∈o.after,Region.binds .any e=true->aB.getD e.on false=true
section
variable{P:Program}{E:Env}{ops:Array Oper}{K:St->Prop}
theorem OA(h:aB.getD i true=false):aB.getD i false=false:=by
 rcases th i aB.size with h'|h'
 ·simp[h']at h⊢;exact h
 ·simp[F0 h']at h
theorem HI(h:aB.getD i false=true):aB.getD i true=true:=by
 rcases th i aB.size with h'|h'
 ·simp[h']at h⊢;exact h
 ·simp[F0 h']at h
theorem xB(hc:vN ops aB){q:Nat}(h:qI ops q i):aB.getD q true=true->aB.getD i false=true:=by
 induction h with
 |aaT k o e h he hb=>intro hl;exact hc k o h hl e he hb|trans k o e i h he hb h2 ih=>intro hl;exact ih (HI (hc k o h hl e he hb))
theorem AR(hc:vN ops aB){q:Nat}(h:qI ops q i)(hq:q∈Region.ready .any ops aB):aB.getD i false=true:=by
 obtain⟨_,o',Jr,cY⟩:=mem_ready.1 hq;cases h with
 |aaT _ o e h he hb=>rw[Jr]at h;cases h;exact cY e he hb
 |trans _ o e i h he hb h2=>rw[Jr]at h;cases h;exact xB hc h2 (HI (cY e he hb))
theorem vN.set (hc:vN ops aB) (hj:j∈Region.ready .any ops aB):vN ops (aB.setIfInBounds j true):=by
 intro k o hk hl e he hb;by_cases hkj:j=k
 ·subst hkj;obtain⟨_,o',Jr,cY⟩:=mem_ready.1 hj;rw[Jr]at hk;cases hk;exact getD_set_true (cY e he hb)
 ·rw[getD_set_ne true hkj]at hl;exact getD_set_true (hc k o hk hl e he hb)
end
section
variable{P:Program}{E:Env}{w0:World}{I0:Cells}{n:Nat}{o:Oper}{s:St}{ops:Array Oper}
theorem oJ{w:World}(ax:gJ n ops=true)(ho:o∈ops)(hw:fm ops o s=some b)(hR:Rel P E w0 I0 n s a w):Region.wanted o (yielded ops a.tmps)=b:=by
 have qG:=rq.1 ax o ho;simp only[aD]at qG;unfold fm at hw;cases hg:o.guard with
 |none=>simp only[hg,ah]at hw;simp[Region.wanted,hg,hw]|some p=>
  obtain⟨j,want⟩:=p;simp only[hg]at hw;cases hj:(ops[j]?).bind (·.dst)with
  |none=>simp only[hj]at hw;cases hw
  |some t=>
   simp only[hj]at hw;have eK:t<n:=by have:=qG.2;simp only[hg,hj]at this;simpa using this
   obtain⟨I,be,lr⟩:=hR;simp only[Region.wanted,hg];exact rF lr eK hj hw
variable{Q:bZ->St->Prop}{X:AV->St->Prop}
end
def Cells.lay (I:Cells) (i B:Nat):Cells:=⟨I.mem,λj=>if j=i then some B else I.ar j⟩
section
variable{P:Program}{E:Env}{w0:World}{I0:Cells}{n:Nat}{s:St}{a:Act}{w w':World}{I I':Cells}{be:Nat->Option Nat}{o:Oper}{K:St->Prop}
theorem cH.lay {B:Nat} (h:I.ar i=none):cH w w I (I.lay i B):=
 .sub (λ_ h=>h) λj B' hj=>by
  have:j≠i:=λe=>by subst e;rw[h]at hj;cases hj
  simpa[Cells.lay,this]using hj
theorem aC.MT (h:aC P E w0 I0 n s a w I be) (i:Nat) (jX:E.ro i=none) (x':Ob) (B:Nat) (hi:s.a i≠none) (hB:I.ar i=some B) (Ay:w'.os=w.os) (ji:w'.tape=w.tape) (mJ:w'.output=w.output) (dh:w'.heap.size=w.heap.size)
  (qz:∀k,k≠B->w'.heap[k]?=w.heap[k]?) (FM:∀B,Shape w w' B) (bV:cH w w' I I->qx P w' I B x'):aC P E w0 I0 n {s with a:=bF s.a i (some x')} a w' I be:=by
 obtain⟨o1,o2,o3,o4,o5⟩:=h.aO.own i B hi hB;have G:cH w w' I I:=.world (λp v hp hv=>by rw[ct (qz p.block (o3 p hp))];exact hv) FM;have hs:=h.since.step (w':=w') (I':=I) Ay ji mJ (by omega) (λk=>k=B) (λk _ hk=>qz k hk) (λk hk=>by subst hk;exact ⟨o1,o4⟩) FM (λ_ h=>h) rfl (λ_ h=>.inl h);have Az:∀b,E.bN w' b->E.bN w b:=(E.stays w w' h.since.inv (λb hb=>qz b (λe=>o4 (e▸hb)))).2;have Fh:∀d B',s.b d≠none->be d=some B'->w'.heap[B']?=w.heap[B']?:=λd B' hd cZ=>qz B' λe=>o5 ⟨d,hd,by rw[cZ,e]⟩;have hd:∀d,s.g d<s.g d∨(s.g d=s.g d/\eu P w w' be be s.b s.b d):=λd=>.inr ⟨rfl,.ib rfl rfl (λB hn=>Fh d B hn)⟩;refine⟨hs,h.size,h.defers.mono G,λt ht=>(h.cr t ht).dN G hd,λd x hx=>(h.boxes d x hx).dN G hd rfl (λB'=>Fh d B' (by have bV:s.b d=some x:=hx;rw[bV];exact λh=>by cases h)),h.inj,λd B' hd cZ=>?_,h.tie,⟨λj x hj=>?_,λj k B' h1 h2 h3 h4=>?_,λj B' hj cZ=>?_,h.aO.un,λj y hj=>?_⟩⟩
 ·obtain ⟨q1,q2,q3,q4⟩:=h.own d B' hd cZ;exact⟨q1,by omega,q3,λhf=>q4 (Az _ hf)⟩
 ·by_cases e:j=i
  ·subst e;simp only[bA,ah]at hj;subst hj;exact⟨B,hB,bV G⟩
  ·simp only[ay _ _ e]at hj;obtain⟨B',q1,q2⟩:=h.aO.obj j x hj;exact⟨B',q1,q2.dN G (qz B' λe'=>e (h.aO.inj j i B (by simp[hj]) hi (by rw[q1,e']) hB))⟩
 ·have hn:∀j,bF s.a i (some x') j≠none->s.a j≠none:=λj hj=>by
   by_cases e:j=i
   ·subst e;exact hi
   ·simpa only[ay _ _ e]using hj
  exact h.aO.inj j k B' (hn j h1) (hn k h2) h3 h4
 ·have hn:s.a j≠none:=by
   by_cases e:j=i
   ·subst e;exact hi
   ·simpa only[ay _ _ e]using hj
  obtain⟨q1,q2,q3,q4,q5⟩:=h.aO.own j B' hn cZ;exact⟨q1,by omega,q3,λhf=>q4 (Az _ hf),q5⟩
 ·have e:j≠i:=λe=>by subst e;rw[jX]at hj;cases hj
  exact⟨(ay _ _ e).trans (h.aO.ro j y hj).1,(h.aO.ro j y hj).2⟩
theorem aC.ZG (h:aC P E w0 I0 n s a w I be) (hE:E.fixed=false) (i:Nat) (hu:s.u i=false) (x:Ob) (B:Nat) (hB:E.fresh w0 B/\B<w.heap.size/\(∀p,I p->p.block≠B)/\¬E.bN w B/\(∀d,s.b d≠none->be d≠some B)/\∀j,s.a j≠none->I.ar j≠some B) (hx:qx P w (I.lay i B) B x):
  aC P E w0 I0 n {s with a:=bF s.a i (some x),u:=bF s.u i true} a w (I.lay i B) be:=by
 have hi0:=h.aO.un i hu;have hi:s.a i=none:=by
  cases hq:s.a i with
  |none=>rfl|some y=>obtain⟨B',q,_⟩:=h.aO.obj i y hq;rw[hi0]at q;cases q
 have G:cH w w I (I.lay i B):=.lay hi0;have hs:er E w0 I0 w (I.lay i B):=by have:=h.since;exact⟨this.os,this.tape,this.output,this.size,this.block,this.bN,this.inv,this.more,λj B' hj=>G.ar j B' (this.ar j B' hj),λhx=>(by rw[hE]at hx;cases hx),this.shape,this.new,this.lt,this.off⟩
 have hd:∀d,s.g d<s.g d∨(s.g d=s.g d/\eu P w w be be s.b s.b d):=λd=>.inr ⟨rfl,λh=>⟨h,rfl⟩,λ_ _ _ h=>h⟩;have dA:∀j,j≠i->(I.lay i B).ar j=I.ar j:=λj hj=>by simp[Cells.lay,hj]
 have hse:(I.lay i B).ar i=some B:=by simp[Cells.lay]
 have hup:∀j,j≠i->bF s.a i (some x) j≠none->s.a j≠none:=λj e hj=>by simpa only[ay _ _ e]using hj
 refine⟨hs,h.size,h.defers.mono G,λt ht=>(h.cr t ht).dN G hd,λd x hx=>(h.boxes d x hx).dN G hd rfl (λ_ _=>rfl),h.inj,h.own,h.tie,⟨λj y hj=>?_,λj k B' h1 h2 h3 h4=>?_,λj B' hj cZ=>?_,λj hj=>?_,λj y hj=>?_⟩⟩
 ·by_cases e:j=i
  ·subst e;simp only[bA,ah]at hj;subst hj;exact⟨B,hse,hx⟩
  ·simp only[ay _ _ e]at hj;obtain⟨B',q1,q2⟩:=h.aO.obj j y hj;exact⟨B',(dA j e).trans q1,q2.dN G rfl⟩
 ·by_cases e1:j=i
  ·by_cases e2:k=i
   ·rw[e1,e2]
   ·subst e1;rw[hse]at h3;injection h3 with h3;subst h3;rw[dA k e2]at h4;exact absurd h4 (hB.2.2.2.2.2 k (hup k e2 h2))
  ·by_cases e2:k=i
   ·subst e2;rw[hse]at h4;injection h4 with h4;subst h4;rw[dA j e1]at h3;exact absurd h3 (hB.2.2.2.2.2 j (hup j e1 h1))
   ·rw[dA j e1]at h3;rw[dA k e2]at h4;exact h.aO.inj j k B' (hup j e1 h1) (hup k e2 h2) h3 h4
 ·by_cases e:j=i
  ·subst e;rw[hse]at cZ;injection cZ with cZ;subst cZ;exact⟨hB.1,hB.2.1,hB.2.2.1,hB.2.2.2.1,λ⟨d,hd,Fh⟩=>hB.2.2.2.2.1 d hd Fh⟩
  ·rw[dA j e]at cZ;exact h.aO.own j B' (hup j e hj) cZ
 ·have e:j≠i:=λe=>by subst e;simp at hj
  simp only[ay _ _ e]at hj;rw[dA j e];exact h.aO.un j hj
 ·obtain ⟨h1,h2⟩:=h.aO.ro j y hj;have e:j≠i:=λe=>by subst e;rw[hi]at h1;cases h1
  exact⟨(ay _ _ e).trans h1,(dA j e).trans h2⟩
theorem aC.Te (h:aC P E w0 I0 n s a w I be) (hE:E.fixed=false) (i:Nat) (hu:s.u i=false) (x:Ob) {ob:Obj} (Ay:w'.os=w.os) (ji:w'.tape=w.tape) (mJ:w'.output=w.output) (sh:w'.heap=w.heap.push ob)
  (hx:w'.heap[w.heap.size]?=some ob->cH w w' I (I.lay i w.heap.size)->qx P w' (I.lay i w.heap.size) w.heap.size x):
  aC P E w0 I0 n {s with a:=bF s.a i (some x),u:=bF s.u i true} a w' (I.lay i w.heap.size) be:=by
 obtain⟨h',jd,Fb,hg,Sz⟩:=h.fresh Ay ji mJ sh;exact h'.ZG hE i hu x w.heap.size ⟨Fb.1,Fb.2.1,Fb.2.2.1,Fb.2.2.2.1,Fb.2.2.2.2,λj hj=>Sz _ rfl j hj⟩ (hx jd (hg.trans (.lay (h.aO.un i hu))))
theorem aC.aaU (h:aC P E w0 I0 n s a w I be) (i:Nat) (jX:E.ro i=none):aC P E w0 I0 n {s with a:=bF s.a i none} a w I be:=by
 have hn:∀j,bF s.a i none j≠none->s.a j≠none:=λj hj=>by
  have e:j≠i:=λe=>by subst e;simp at hj
  simpa only[ay _ _ e]using hj
 refine⟨h.since,h.size,h.defers,h.cr,h.boxes,h.inj,h.own,h.tie,⟨λj x hj=>?_,λj k B h1 h2=>h.aO.inj j k B (hn j h1) (hn k h2),λj B hj=>h.aO.own j B (hn j hj),h.aO.un,λj y hj=>(by
  have e:j≠i:=λe=>by subst e;rw[jX]at hj;cases hj
  exact⟨(ay _ _ e).trans (h.aO.ro j y hj).1,(h.aO.ro j y hj).2⟩)⟩⟩
 have e:j≠i:=λe=>by subst e;simp at hj
 simp only[ay _ _ e]at hj;exact h.aO.obj j x hj
theorem aC.JW (h:aC P E w0 I0 n s a w I be) (hE:E.fixed=false) (i:Nat) (hu:s.u i=false) (d:Nat) (hb:s.b d=some (.aT e xs)) {B:Nat} (hB:be d=some B):
  aC P E w0 I0 n {s with b:=bF s.b d none,a:=bF s.a i (some (.aT e xs)),u:=bF s.u i true} a w (I.lay i B) be:=by
 have uP:s.b d≠none:=by simp[hb]
 obtain⟨o1,o2,o3,o4⟩:=h.own d B uP hB;have hd:=h.drop d;have lC:=h.boxes d _ hb;refine hd.ZG hE i hu (.aT e xs) B ⟨o1,o2,o3,o4,λd' fF cZ=>?_,λj hj hBj=>(h.aO.own j B hj hBj).2.2.2.2 ⟨d,uP,hB⟩⟩ ?_
 ·have e':d'≠d:=λe'=>by subst e';simp at fF
  simp only[ay _ _ e']at fF;exact e' (h.inj d' d B fF uP cZ hB)
 ·obtain ⟨q1,q2,q3,q4⟩:=lC;rw[hB]at q4;obtain⟨cur,cap,q5,q6,q7,q8,q9⟩:=q4;exact⟨q1,q2,q3,cur,cap,q5,q6,q7,q8,λi j x c h1 h2=>(q9 i j x c h1 h2).mono (.lay (h.aO.un _ hu))⟩
theorem aC.Xa (h:aC P E w0 I0 n s a w I be) (i d:Nat) (jX:E.ro i=none) (ha:s.a i=some (.aT e xs)) {B:Nat} (hB:I.ar i=some B):
  aC P E w0 I0 n {s with b:=bF s.b d (some (.aT e xs)),g:=bF s.g d (s.g d+1),a:=bF s.a i none} a w I (bF be d (some B)):=by
 have qu:s.a i≠none:=by simp[ha]
 obtain⟨o1,o2,o3,o4,o5⟩:=h.aO.own i B qu hB;have h1:=h.aaU i jX;refine h1.nC d (.aT e xs) (some B) ?_ (λB' cZ=>?_) (λB' cZ j hj hBj=>?_)
 ·obtain ⟨B',q1,q2⟩:=h.aO.obj i _ ha;rw[hB]at q1;injection q1 with q1;subst q1;obtain⟨q3,q4,q5,q6⟩:=q2;refine⟨q3,q4,q5,?_⟩;simp only[bA];exact q6
 ·injection cZ with cZ;subst cZ;exact⟨o1,o2,o3,o4,λd' _ fF Fh=>o5 ⟨d',fF,Fh⟩⟩
 ·injection cZ with cZ;subst cZ;have e:j≠i:=λe=>by subst e;simp at hj
  have WO:s.a j≠none:=by simpa only[ay _ _ e]using hj
  exact e (h.aO.inj j i _ WO qu hBj hB)
end
section
variable{P:Program}{E:Env}{w0:World}{I0:Cells}{n:Nat}{s:St}{fn:Func}
end
section
variable{P:Program}{E:Env}{s:St}{ops:Array Oper}{X:AV->St->Prop}{K:St->Prop}
end
def zn(n:Nat)(c:Operand):Bool:=bI c&&match c with
 |.tmp t=>decide (t<n)|_=>true
theorem aaW{Q:bZ->St->Prop}{c:Operand}{x y:Code}(hc:zn n c=true)(hb:s.ev c=.val (.fl (.bool b)))(h1:b=true->lz P E w0 I0 n x Q X s)(h2:b=false->lz P E w0 I0 n y Q X s):
  lz P E w0 I0 n (.cond c x y) Q X s:=by
 simp only[zn,aD]at hc;exact SZ ⟨hc.1,λt ht=>by subst ht;simpa using hc.2⟩ hb h1 h2
theorem uv(cs:List AV):(AV.agg cs).cells=cs:=rfl
theorem mR{x:Int}(h1:-9223372036854775808<=x)(h2:x<=9223372036854775807):IntKind.i64.wrap x=x:=by simp only[IntKind.wrap,IntKind.bits,IntKind.signed];simp;omega
def oK(P:Program)(t:TypeId):Option Nat:=
 match P.underlying t with
 |some (.int _)=>some 0|some .bool=>some 1
 |some .string=>some 2|_=>none
def qJ(P:Program):Nat->List Field->Option (List Nat)
 |_,[]=>some []|i,f::fs=>if(f.name != "_" &&f.offset==i)=true then
   match oK P f.type,qJ P (i+1) fs with
   |some k,some ks=>some (k::ks)|_,_=>none
  else none
def uw(P:Program)(t:TypeId):Option (List Nat):=
 match P.underlying t with
 |some (.struct fs)=>if(P.eqGuardType P.depth t||P.stoodInHeld t)=true then none else qJ P 0 fs.toList|_=>none
def fP:List Nat->List AV->List AV->Option Bool
 |[],[],[]=>some true|0::ks,.fl (.int k a)::xs,.fl (.int k' b)::ys=>if k=k' then(fP ks xs ys).map λr=>(a==b)&&r else none
 |1::ks,.fl (.bool a)::xs,.fl (.bool b)::ys=>(fP ks xs ys).map λr=>(a==b)&&r|2::ks,.fl (.string a)::xs,.fl (.string b)::ys=>(fP ks xs ys).map λr=>(a.data.toList==b.data.toList)&&r
 |_,_,_=>none
section
variable{P:Program}
theorem xC(hk:oK P t=some k){xs:Array Value}(hx:xs[off]?=some v)(w:World):(part t xs off).run P w=.ok v w:=by
 have ha:nS P t=some false:=by
  unfold oK at hk;unfold nS;cases hu:P.underlying t with
  |none=>simp[hu]at hk|some d=>cases d<;>simp[hu]at hk⊢
 simp only[part,bJ,qC ha,bX,gB,bY,hx,b9]
theorem oL:∀{ks:List Nat}{xs ys:List AV}{e:Bool},fP ks xs ys=some e->∃us vs:List Value,xs=us.map .fl/\ys=vs.map .fl
 |[],[],[],e,h=>⟨[],[],rfl,rfl⟩|0::ks,.fl (.int k a)::xs,.fl (.int k' b)::ys,e,h=>by
  simp only[fP]at h;split at h
  ·obtain ⟨r,hr,_⟩:=ck.1 h;obtain⟨us,vs,h1,h2⟩:=oL hr;exact⟨.int k a::us,.int k' b::vs,by simp[h1],by simp[h2]⟩
  ·cases h
 |1::ks,.fl (.bool a)::xs,.fl (.bool b)::ys,e,h=>by simp only[fP]at h;obtain⟨r,hr,_⟩:=ck.1 h;obtain⟨us,vs,h1,h2⟩:=oL hr;exact⟨.bool a::us,.bool b::vs,by simp[h1],by simp[h2]⟩|2::ks,.fl (.string a)::xs,.fl (.string b)::ys,e,h=>by simp only[fP]at h;obtain⟨r,hr,_⟩:=ck.1 h;obtain⟨us,vs,h1,h2⟩:=oL hr;exact⟨.string a::us,.string b::vs,by simp[h1],by simp[h2]⟩
theorem ad6(h:oK P t=some 0):∃k,P.underlying t=some (.int k):=by unfold oK at h;split at h<;>simp at h;rename_i k hk;exact ⟨k,hk⟩
theorem ad7(h:oK P t=some 1):P.underlying t=some .bool:=by unfold oK at h;split at h<;>simp at h;assumption
theorem ad8(h:oK P t=some 2):P.underlying t=some .string:=by unfold oK at h;split at h<;>simp at h;assumption
theorem xD(d:Nat)(w:World)(X Y:Array Value):∀(fs:List Field)(ks:List Nat)(i:Nat)(xs ys:List AV)(e:Bool),qJ P i fs=some ks->
  (∀(j:Nat)(v:Value),xs[j]?=some (.fl v)->X[i+j]?=some v)->(∀(j:Nat)(v:Value),ys[j]?=some (.fl v)->Y[i+j]?=some v)->fP ks xs ys=some e->(Op.eqFields (d+1) X Y fs).run P w=.ok e w
 |[],ks,i,xs,ys,e,hk,hx,hy,h=>by simp only[qJ,ah]at hk;subst hk;cases xs<;>cases ys<;>simp[fP]at h;subst h;rfl
 |f::fs,ks,i,xs,ys,e,hk,hx,hy,h=>by
  simp only[qJ]at hk;split at hk
  ·rename_i hf;simp only[aD,bne_iff_ne,fc]at hf;split at hk
   ·rename_i k ks' JX QX;simp only[ah]at hk;subst hk;have step:∀(a b:Value)(om ys':List AV)(c r:Bool),xs=.fl a::om->ys=.fl b::ys'->(Op.equalIn (d+1) f.type a b).run P w=.ok c w->fP ks' om ys'=some r->e=(c&&r)->(Op.eqFields (d+1) X Y (f::fs)).run P w=.ok e w:=by
     intro a b om ys' c r e1 e2 hc hr he;subst e1 e2;have h1:=xC JX (xs:=X) (off:=f.offset) (v:=a) (by rw[hf.2];exact hx 0 a (by simp)) w;have h2:=xC JX (xs:=Y) (off:=f.offset) (v:=b) (by rw[hf.2];exact hy 0 b (by simp)) w;have ih:=xD d w X Y fs ks' (i+1) om ys' r QX (λj v hj=>by rw[iU,jo 1 j];exact hx (j+1) v (by simpa using hj)) (λj v hj=>by rw[iU,jo 1 j];exact hy (j+1) v (by simpa using hj)) hr;simp only[Op.eqFields,ap hf.1,bJ,h1,h2,hc,bX,Sem.run_ite];cases c with
     |false=>simp only[tq,bp,b9];rw[he];rfl|true=>simp only[fG,gB,bY,ih];rw[he];rfl
    unfold fP at h;split at h
    ·rename_i Fm;cases Fm
    ·rename_i Fm;injection Fm with e1 e2;subst e1 e2;split at h
     ·rename_i hkk;obtain⟨r,hr,he⟩:=ck.1 h;obtain⟨k0,hu⟩:=ad6 JX;subst hkk;exact step _ _ _ _ _ _ rfl rfl (run_equalIn_int w d f.type _ k0 _ _ hu) hr he.symm
     ·cases h
    ·rename_i Fm;injection Fm with e1 e2;subst e1 e2;obtain⟨r,hr,he⟩:=ck.1 h;exact step _ _ _ _ _ _ rfl rfl (run_equalIn_bool' w d f.type _ _ (ad7 JX)) hr he.symm
    ·rename_i Fm;injection Fm with e1 e2;subst e1 e2;obtain⟨r,hr,he⟩:=ck.1 h;refine step _ _ _ _ _ _ rfl rfl (run_equalIn_string w d f.type _ _ (ad8 JX)) hr ?_;rw[ByteArray.toList_eq,ByteArray.toList_eq];exact he.symm
    ·cases h
   ·cases hk
  ·cases hk
theorem qK:∀us:List Value,(us.map AV.fl).mapM My=some us
 |[]=>rfl|u::us=>by simp[My,qK us]
theorem HJ{o:Oper}{x:Operand}(ho:o.op=.binOp op t x y t'){ys:List AV}(hx:s.ev x=.val (.agg xs))(hy:s.ev y=.val (.agg ys)){ks:List Nat}(hk:uw P t=some ks)
  {e:Bool} (he:fP ks xs ys=some e) (sX:op=.eql∨op=.neq) (hK:K (.val (.fl (.bool (if op=.eql then e else !e))))):uZ P o s K:=by
 obtain⟨us,vs,rfl,rfl⟩:=oL he;unfold uw at hk;split at hk
 ·rename_i fs hu;split at hk
  ·cases hk
  ·rename_i hg;simp only[lP,not_or,Bool.not_eq_true]at hg;have hf:P.underlying t=some (.struct (P.fieldsOf t)):=by simp[Program.fieldsOf,hu]
   have hfs:P.fieldsOf t=fs:=by simp[Program.fieldsOf,hu]
   have hX:jL s x=.agg us.toArray:=by simp only[jL,hx,oH,qc,qK,bQ,dB]
   have hY:jL s y=.agg vs.toArray:=by simp only[jL,hy,oH,qc,qK,bQ,dB]
   have cu:∀w,(Op.equalIn 10000 t (.agg us.toArray) (.agg vs.toArray)).run P w=.ok e w:=λw=>by rw[run_equalIn_agg w 9999 t _ _ hf hg.2,hfs];exact xD 9998 w _ _ fs.toList ks 0 _ _ e hk (λj v hj=>by simpa using hj) (λj v hj=>by simpa using hj) he
   refine⟨.bool (if op=.eql then e else !e),λw=>?_,⟨rfl,λz hz=>?_⟩,hK⟩
   ·rcases sX with rfl|rfl
    ·simp only[execOp,ho,hX,hY,bJ,run_eqGuard_agg w _ _ _ _ _ _ hg.1,bX,run_eql_struct,cu,b9,bp]
    ·simp only[execOp,ho,hX,hY,bJ,run_eqGuard_agg w _ _ _ _ _ _ hg.1,bX,run_neq_struct,cu,b9,reduceCtorEq,bY]
   ·simp only[ho,Op.operands]at hz;have:z=x∨z=y:=by simpa using hz
    rcases this with rfl|rfl
    ·rw[hx];simp only[oH,qc,qK,bQ,Option.isSome_some,nY];exact λh=>by cases h
    ·rw[hy];simp only[oH,qc,qK,bQ,Option.isSome_some,nY];exact λh=>by cases h
 ·cases hk
end
def jM(P:Program)(t:TypeId)(cs:List AV)(K:AV->Prop):Prop:=
 match nS P t with
 |some true=>(0<P.cellsOf t/\P.cellsOf t<=cs.length)/\K (.agg (cs.take (P.cellsOf t)))|some false=>(0<P.cellsOf t/\P.cellsOf t<=cs.length)/\K (cs.headD (.fl undef))
 |none=>False
def AS(P:Program)(s:St)(t:TypeId)(r:br)(K:br->Prop):Prop:=
 match r with
 |.val (.ref cs)=>jM P t cs λv=>K (.val v)|.loc d gg sz i k=>
  match s.b d with
  |some (.cells cs)=>
   match nS P t with
   |some true=>
    match cR ((cs.drop (i*sz+k)).take (P.cellsOf t))with
    |some xs=>(gg=s.g d/\0<P.cellsOf t/\P.cellsOf t<=(cs.drop (i*sz+k)).length)/\K (.val (.agg xs))|none=>False
   |some false=>(gg=s.g d/\0<P.cellsOf t/\P.cellsOf t<=(cs.drop (i*sz+k)).length)/\K ((cs.drop (i*sz+k)).headD .none)|none=>False
  |some (.aT e xs)=>
   match xs[i]? with
   |some y=>(gg=s.g d/\sz=P.cellsOf e)/\jM P t (y.cells.drop k) λv=>K (.val v)|none=>False
  |none=>False
 |_=>False
def js(P:Program)(s:St)(t:TypeId)(f:Nat)(r:br)(K:br->Prop):Prop:=
 match lJ P t f with
 |some (off,_)=>
  match r with
  |.val (.ref cs)=>K (.val (.ref (cs.drop off)))|.loc d gg sz i k=>(gg=s.g d/\s.b d≠none)/\K (.loc d gg sz i (k+off))
  |_=>False
 |none=>False
def jt(P:Program)(s:St)(t:TypeId)(x y:br)(K:br->Prop):Prop:=
 match dO P t with
 |some e=>
  match y with
  |.val (.fl (.int _ m))=>
   match x with
   |.val (.sl xs)=>
    match xs[m.toNat]? with
    |some z=>(0<P.cellsOf e/\0<=m/\z.cells.length=P.cellsOf e)/\K (.val (.ref z.cells))|none=>False
   |.full xs=>
    match xs[m.toNat]? with
    |some z=>(0<P.cellsOf e/\0<=m/\z.cells.length=P.cellsOf e)/\K (.val (.ref z.cells))|none=>False
   |.view d gg off len=>(0<P.cellsOf e/\0<=m/\gg=s.g d/\(∃xs,s.b d=some (.aT e xs))/\m<len)/\K (.loc d gg (P.cellsOf e) (off+m.toNat) 0)|_=>False
  |_=>False
 |none=>False
def tr(o:Option Value)(K:br->Prop):Prop:=
 match o with
 |some v=>K (.val (.fl v))|none=>False
def Tf(P:Program)(op:BinOp)(t:TypeId)(x y:br)(K:br->Prop)(G:Prop):Prop:=
 match x,y with
 |.val (.fl (.int k p)),.val (.fl (.int k' q))=>(k'=k∨lL op=true)/\tr (sV op k p q) K|.val (.fl (.bool p)),.val (.fl (.bool q))=>(P.underlying t=some .bool/\(op=.eql∨op=.neq))/\K (.val (.fl (.bool (if op=.eql then p==q else p !=q))))
 |.val (.fl (.string p)),.val (.fl (.string q))=>tr (mQ op p.data.toList q.data.toList) K|.val (.agg xs),.val (.agg ys)=>match uw P t with
  |some ks=>match fP ks xs ys with
   |some e=>(op=.eql∨op=.neq)/\K (.val (.fl (.bool (if op=.eql then e else !e))))|none=>False
  |none=>False
 |_,_=>G
def nI(P:Program)(s:St)(t:TypeId)(xs:List AV)(lo hi mx:Option Operand)(K:br->Prop):Prop:=
 match dO P t with
 |some e=>
  match nD s 0 lo with
  |some l=>
   match nD s xs.length hi with
   |some q=>
    match mx with
    |none=>(0<P.cellsOf e/\(∀x∈xs,x.cells.length=P.cellsOf e)/\l<=q/\q<=xs.length)/\K (.val (.sl ((xs.drop l).take (q-l))))|some z=>(0<P.cellsOf e/\(∀x∈xs,x.cells.length=P.cellsOf e)/\l<=q/\q<=xs.length/\hi.isSome=true/\nD s 0 (some z)=some q)/\K (.full ((xs.drop l).take (q-l)))
   |none=>False
  |none=>False
 |none=>False
def HM(P:Program)(s:St)(t:TypeId)(x:br)(lo hi mx:Option Operand)(K:br->Prop):Prop:=
 match x with
 |.val (.sl xs)=>nI P s t xs lo hi mx K|.full xs=>nI P s t xs lo hi mx K
 |.view d gg off len=>
  match dO P t with
  |some e=>
   match nD s 0 lo with
   |some l=>
    match nD s len hi with
    |some q=>(mx=none/\gg=s.g d/\(∃xs,s.b d=some (.aT e xs))/\l<=q/\q<=len)/\K (.view d gg (off+l) (q-l))|none=>False
   |none=>False
  |none=>False
 |.val (.fl (.string xs))=>
  match nD s 0 lo with
  |some l=>
   match nD s xs.data.toList.length hi with
   |some h=>(mx=none/\P.underlying t=some .string/\l<=h/\h<=xs.data.toList.length)/\K (.val (.fl (bs ((xs.data.toList.drop l).take (h-l)))))|none=>False
  |none=>False
 |_=>False
def Tg(P:Program)(src dst:TypeId):Option IntKind:=
 match P.underlying src,P.underlying dst with
 |some _,some (.int k)=>some k|_,_=>none
def ff(P:Program)(o:Oper)(s:St)(K:br->Prop):Prop:=
 match o.op with
 |.move x=>K (s.ev x)|.pick c x y=>match s.ev c with
  |.val (.fl (.bool b))=>if b=true then K (s.ev x)else K (s.ev y)|_=>False
 |.load t x=>AS P s t (s.ev x) K|.fieldAddr t x f=>js P s t f (s.ev x) K
 |.indexAddr t x y=>jt P s t (s.ev x) (s.ev y) K|.extract x k=>match s.ev x with
  |.fb rs=>match rs[k]? with
   |some r=>K r|none=>False
  |_=>False
 |.field t x f=>match lJ P t f with
  |some (off,ft)=>match s.ev x with
   |.val (.agg cs)=>jM P ft (cs.drop off) λv=>K (.val v)|_=>False
  |none=>False
 |.makeFunc (.func f) first caps=>match bK s caps.toList with
  |some xs=>first.toList=[]/\K (.val (.fn f xs))
  |none=>False
 |.makeInterface t x=>match bh (s.ev x)with
  |some v=>P.concrete t=true/\K (.val (.mI t v))|none=>False
 |.build t parts=>match placesOf P t with
  |some pl=>match zeroOf P t with
   |some z=>match partsOf s pl parts.toList with
    |some ps=>(pl.all λp=>decide (p.1+p.2<=z.cells.length))=true/\K (.val (.agg (cW z.cells ps)))|none=>False
   |none=>False
  |none=>False
 |.slice t x lo hi mx=>HM P s t (s.ev x) lo hi mx K|.index t x y=>match s.ev x with
  |.val (.fl (.string l))=>match s.ev y with
   |.val (.fl (.int _ m))=>match l.data.toList[m.toNat]? with
    |some c=>(P.underlying t=some .string/\0<=m)/\K (.val (.fl (.int .u8 c.toNat)))|none=>False
   |_=>False
  |_=>False
 |.binOp op t x y _=>Tf P op t (s.ev x) (s.ev y) K (uZ P o s K)|.unOp .not _ x=>match s.ev x with
  |.val (.fl (.bool p))=>K (.val (.fl (.bool (!p))))|_=>False
 |.unOp .neg _ x=>match s.ev x with
  |.val (.fl (.int k p))=>K (.val (.fl (.int k (k.wrap (0-p)))))|_=>False
 |.convert src dst x=>match s.ev x with
  |.val (.fl (.int _ n))=>match Tg P src dst with
   |some k'=>K (.val (.fl (.int k' (k'.wrap n))))|none=>uZ P o s K
  |_=>uZ P o s K
 |_=>False
section
variable{P:Program}{E:Env}{o:Oper}{s:St}
theorem qL{cs:List AV}{K:AV->Prop}(h:jM P t cs K):fC P t cs K:=by
 unfold jM at h;unfold fC;split at h
 ·rename_i hq;rw[hq];exact ⟨h.1.1,h.1.2,h.2⟩
 ·rename_i hq;rw[hq];exact ⟨h.1.1,h.1.2,h.2⟩
 ·exact h.elim
theorem OB(h:AS P s t r K):qF P s t r K:=by
 unfold AS at h;split at h
 ·exact qL h
 ·rename_i d gg sz i k;unfold qF;split at h
  ·rename_i cs hb;simp only[hb];unfold iL;split at h
   ·rename_i hq;rw[hq];split at h
    ·rename_i xs hx;exact ⟨h.1.1,h.1.2.1,h.1.2.2,xs,hx,h.2⟩
    ·exact h.elim
   ·rename_i hq;rw[hq];exact ⟨h.1.1,h.1.2.1,h.1.2.2,h.2⟩
   ·exact h.elim
  ·rename_i e xs hb;simp only[hb];split at h
   ·rename_i y hy;exact ⟨h.1.1,h.1.2,y,hy,qL h.2⟩
   ·exact h.elim
  ·exact h.elim
 ·exact h.elim
theorem HN{f:Nat}(h:js P s t f r K):kI P s t f r K:=by
 unfold js at h;split at h
 ·rename_i off ft hf;refine⟨off,ft,hf,?_⟩;split at h<;>first|exact h|exact h.elim
 ·exact h.elim
theorem HO{x y:br}(h:jt P s t x y K):kJ P s t x y K:=by
 unfold jt at h;split at h
 ·rename_i e he;split at h
  ·split at h
   ·split at h
    ·rename_i z hz;exact ⟨e,he,h.1.1,h.1.2.1,z,hz,h.1.2.2,h.2⟩
    ·exact h.elim
   ·split at h
    ·rename_i z hz;exact ⟨e,he,h.1.1,h.1.2.1,z,hz,h.1.2.2,h.2⟩
    ·exact h.elim
   ·exact ⟨e,he,h.1.1,h.1.2.1,h.1.2.2.1,h.1.2.2.2.1,h.1.2.2.2.2,h.2⟩
   ·exact h.elim
  ·exact h.elim
 ·exact h.elim
theorem C3{o:Option Value}(h:tr o K):∃v,o=some v/\K (.val (.fl v)):=by
 unfold tr at h;split at h
 ·exact ⟨_,rfl,h⟩
 ·exact h.elim
theorem AT(b:ByteArray):Value.string b=bs b.data.toList:=by cases b;simp[bs]
theorem aaX{x y:br}{F:Prop}(hA:∀xs ys ks e,x=.val (.agg xs)->y=.val (.agg ys)->uw P t=some ks->fP ks xs ys=some e->(op=.eql∨op=.neq)->K (.val (.fl (.bool (if op=.eql then e else !e))))->F)(h:Tf P op t x y K F):Fj P op t x y K ((∃p q,x=.val (.fl (bs p))/\y=.val (.fl (bs q))/\∃v,mQ op p q=some v/\K (.val (.fl v)))∨F):=by
 unfold Tf at h;split at h
 ·obtain ⟨v,h1,h2⟩:=C3 h.2;exact ⟨h.1,v,h1,h2⟩
 ·exact h
 ·rename_i p q;obtain⟨v,h1,h2⟩:=C3 h;exact .inl ⟨_,_,by rw[AT],by rw[AT],v,h1,h2⟩
 ·rename_i xs ys;split at h
  ·rename_i ks hk;split at h
   ·rename_i e he;exact .inr (hA _ _ _ _ rfl rfl hk he h.1 h.2)
   ·exact h.elim
  ·exact h.elim
 ·rename_i h1 h2 h3 h4;exact QS h1 h2 (.inr h)
theorem C4(h:nI P s t xs lo hi mx K):kh P s t xs lo hi mx K:=by
 unfold nI at h;split at h
 ·rename_i e he;split at h
  ·rename_i l hl;split at h
   ·rename_i q hq;split at h
    ·exact ⟨e,he,l,q,hl,hq,h.1,h.2⟩
    ·obtain ⟨⟨h1,h2,h3,h4,h5,h6⟩,h7⟩:=h;exact⟨e,he,l,q,hl,hq,⟨h1,h2,h3,h4⟩,h5,h6,h7⟩
   ·exact h.elim
  ·exact h.elim
 ·exact h.elim
theorem Th{x:br}(h:HM P s t x lo hi mx K):s7 P s t x lo hi mx K (mx=none/\P.underlying t=some .string/\∃xs,x=.val (.fl (bs xs))/\∃l h,nD s 0 lo=some l/\nD s xs.length hi=some h/\(l<=h/\h<=xs.length)/\K (.val (.fl (bs ((xs.drop l).take (h-l)))))):=by
 unfold HM at h;split at h
 ·exact C4 h
 ·exact C4 h
 ·split at h
  ·rename_i e he;split at h
   ·rename_i l hl;split at h
    ·rename_i q hq;obtain⟨⟨h1,h2,h3,h4,h5⟩,h6⟩:=h;exact⟨h1,e,he,h2,h3,l,q,hl,hq,⟨h4,h5⟩,h6⟩
    ·exact h.elim
   ·exact h.elim
  ·exact h.elim
 ·split at h
  ·rename_i l hl;split at h
   ·rename_i q hq;obtain⟨⟨h1,h2,h3,h4⟩,h5⟩:=h;exact⟨h1,h2,_,by rw[AT],l,q,hl,hq,⟨h3,h4⟩,h5⟩
   ·exact h.elim
  ·exact h.elim
 ·exact h.elim
theorem QY(h:ff P o s K):gx P o s K:=by
 unfold ff at h;unfold gx;cases ho:o.op<;>simp only[ho]at h⊢;case move x=>exact h
 case pick c x y=>
  split at h
  ·rename_i b hc;refine⟨b,hc,?_⟩;cases b<;>simpa using h
  ·exact h.elim
 case load t x=>exact OB h
 case fieldAddr t x f=>exact HN h
 case indexAddr t x y=>exact HO h
 case extract x k=>
  split at h
  ·rename_i rs hx;split at h
   ·rename_i r hr;exact ⟨rs,r,hx,hr,h⟩
   ·exact h.elim
  ·exact h.elim
 case field t x f=>
  split at h
  ·rename_i off ft hf;split at h
   ·rename_i cs hx;exact ⟨off,ft,hf,cs,hx,qL h⟩
   ·exact h.elim
  ·exact h.elim
 case makeFunc fn first caps=>
  cases fn<;>simp only at h⊢;split at h
  ·rename_i xs hx;exact ⟨h.1,xs,hx,h.2⟩
  ·exact h.elim
 case makeInterface t x=>
  split at h
  ·rename_i v hv;exact ⟨v,hv,h.1,h.2⟩
  ·exact h.elim
 case build t parts=>
  split at h
  ·rename_i pl hp;split at h
   ·rename_i z hz;split at h
    ·rename_i ps hps;exact ⟨pl,hp,z,hz,ps,hps,h.1,h.2⟩
    ·exact h.elim
   ·exact h.elim
  ·exact h.elim
 case slice t x lo hi mx=>exact Th h
 case index t x y=>
  split at h
  ·rename_i l hl;split at h
   ·rename_i k m hm;split at h
    ·rename_i c hc;exact ⟨h.1.1,_,by rw[hl,AT],k,m,hm,h.1.2,c,hc,h.2⟩
    ·exact h.elim
   ·exact h.elim
  ·exact h.elim
 case binOp op t x y t'=>exact aaX (λxs ys ks e h1 h2 h3 h4 h5 h6=>HJ ho h1 h2 h3 h4 h5 h6) h
 case unOp op t x=>
  cases op<;>simp only at h⊢
  ·split at h
   ·rename_i k p hx;exact ⟨k,p,hx,h⟩
   ·exact h.elim
  ·split at h
   ·rename_i p hx;exact ⟨p,hx,h⟩
   ·exact h.elim
 case convert t t' x=>
  split at h
  ·rename_i k n hx;split at h
   ·rename_i k' hk;unfold Tg at hk;split at hk
    ·rename_i d k2 h1 h2;simp only[ah]at hk;subst hk;refine⟨.int k2 (k2.wrap n),λw=>?_,⟨rfl,λy hy=>?_⟩,h⟩
     ·have hf:jL s x=.int k n:=by simp[jL,hx,oH,qc]
      have hik:P.intKind t'=k2:=by simp[Program.intKind,h2]
      have hr:=run_convert_int (P:=P) w t t' k n (by rw[h1];rfl) (by rw[hik];exact h2);rw[hik]at hr;simp[execOp,ho,hf,hr]
     ·simp only[ho,Op.operands]at hy;have:y=x:=by simpa using hy
      subst this;rw[hx];exact⟨rfl,by simp⟩
    ·cases hk
   ·exact h
  ·exact h
theorem nJ(h:ff P o s K):gD P o s K:=.inl (QY h)
end
theorem bind_some{β:Type}{o:Option α}{k:α->Option β}{r:β}(h:o.bind k=some r):∃x,o=some x/\k x=some r:=by
 cases o with
 |none=>cases h
 |some x=>exact ⟨x,rfl,h⟩
def aA{α:Type}(l:List α)(i:Int):Option α:=if 0<=i then l[i.toNat]? else none
theorem Ge{l:List α}{i:Int}{x:α}(h:aA l i=some x):0<=i/\l[i.toNat]?=some x/\i<(l.length:Int):=by
 unfold aA at h;split at h
 ·rename_i hi;refine⟨hi,h,?_⟩;have:=(aV.1 h).1;omega
 ·cases h
def db(b:Bool):Option Unit:=if b=true then some ()else none
theorem dx{u:Unit}(h:db b=some u):b=true:=by
 unfold db at h;split at h
 ·assumption
 ·cases h
theorem aC.J1 {w:World} {I:Cells} (h:aC P E w0 I0 n s a w I be) (d:Nat):
  aC P E w0 I0 n {s with b:=bF s.b d none} a w (I.plus λp=>∃B,s.b d≠none/\be d=some B/\p.block=B) be:=by
 have Ju:=h.drop d;have C7:∀d',s.g d'<s.g d'∨(s.g d'=s.g d'/\eu P w w be be (bF s.b d none) (bF s.b d none) d'):=λd'=>.inr ⟨rfl,λh=>⟨h,rfl⟩,λ_ _ _ h=>h⟩;refine⟨h.since.step (w':=w) rfl rfl rfl (aP _) (λ_=>False) (λ_ _ _=>rfl) (λ_ hk=>hk.elim) (Shape.refl w) (λ_ h=>.inl h) rfl ?_,Ju.size,Ju.defers.mono (.plus _ _ _),
  λt ht=>(Ju.cr t ht).dN (.plus _ _ _) C7,λd' x hx=>(Ju.boxes d' x hx).dN (.plus _ _ _) C7 rfl (λ_ _=>rfl),Ju.inj,λd' B hn hB=>?_,Ju.tie,
  Ju.fY (.plus _ _ _) rfl (λ_=>False) (λ_ _ _ _ h=>h) (λ_ _ _=>rfl) (aP _) (λ_ h=>h.elim) (λp hp=>hp.imp id λ⟨B,hd,hB,e⟩ i hi ly=>(h.aO.own i _ hi ly).2.2.2.2 ⟨d,hd,by rw[hB,e]⟩) (λ_ h=>.inl h)⟩
 ·rintro p (hp|⟨B,hd,hB,rfl⟩)
  ·exact .inl hp
  ·obtain ⟨q1,q2,q3,q4⟩:=h.own d _ hd hB;exact .inr ⟨q1,q2,q4⟩
 ·obtain ⟨q1,q2,q3,q4⟩:=Ju.own d' B hn hB;refine⟨q1,q2,λp hp e=>?_,q4⟩;rcases hp with hp|⟨B',hd,cZ,e'⟩
  ·exact q3 p hp e
  ·have dA:d'≠d:=λe=>hn (by subst e;simp);have E0:s.b d'≠none:=by simpa only[ay _ _ dA]using hn
   have e2:B'=B:=e'.symm.trans e;subst e2;exact dA (h.inj d' d B' E0 hd hB cZ)
section
variable{P:Program}{E:Env}{o:Oper}{s:St}{ops:Array Oper}{X:AV->St->Prop}{K:St->Prop}{rest:List Oper}
end
def ju(d gg:Nat)(c:Nat->Nat->Option AV):br->br
 |.view d' g' off len=>if d'=d/\g'=gg then(match c off len with|some x=>.val x|none=>.none)else .view d' g' off len
 |r=>r
def To(d gg:Nat)(c:Nat->Nat->Option AV):Bx->Bx
 |.cells cs=>.cells (cs.map (ju d gg c))|x=>x
def Q1(b:Nat->Option Bx)(d gg:Nat)(c:Nat->Nat->Option AV):Nat->Option Bx:=λd'=>if d'=d then none else(b d').map (To d gg c)
def St.cv (s:St) (d:Nat) (c:Nat->Nat->Option AV):St:={s with r:=λt=>ju d (s.g d) c (s.r t),b:=Q1 s.b d (s.g d) c}
section
variable{P:Program}{E:Env}{w0:World}{I0:Cells}{n:Nat}{s:St}{a:Act}{w:World}{I I':Cells}{be:Nat->Option Nat}
theorem MW{b:Nat->Option Bx}{c:Nat->Nat->Option AV}(h:Q1 b d gg c d'≠none):d'≠d/\b d'≠none:=by
 unfold Q1 at h;split at h
 ·exact (h rfl).elim
 ·rename_i hd;exact⟨hd,λe=>h (by rw[e];rfl)⟩
theorem Tp{b:Nat->Option Bx}{c:Nat->Nat->Option AV}(h:viewAt P w be b d' off len v):viewAt P w be (Q1 b d gg c) d' off len v:=by
 unfold viewAt at h⊢;unfold Q1;by_cases hd:d'=d
 ·simp[hd]
 ·simp only[hd,bY];cases hb:b d' with
  |none=>simp|some x=>
   rw[hb]at h;cases x with
   |cells cs=>simp[To]|aT e xs=>simpa[To]using h
theorem Gf{b:Nat->Option Bx}{c:Nat->Nat->Option AV}(hG:cH w w I I')
  (hc:∀off len v x,viewAt P w be b d off len v->c off len=some x->cj w I' v x) (h:bD P w I be b g v r):bD P w I' be (Q1 b d (g d) c) g v (ju d (g d) c r):=by
 have hk:∀d',g d'<g d'∨(g d'=g d'/\eu P w w be be b (Q1 b d (g d) c) d'):=λd'=>.inr ⟨rfl,λh=>⟨(MW h).2,rfl⟩,λoff len v h=>Tp h⟩;cases r with
 |view d' gg off len=>
  by_cases hd:d'=d/\gg=g d
  ·obtain ⟨rfl,rfl⟩:=hd;simp only[ju,and_self,bp];cases hx:c off len with
   |none=>trivial|some x=>exact hc off len v x (h.2 rfl) hx
  ·simp only[ju,hd,bY];exact bD.dN (w:=w) (w':=w) hG hk h
 |_=>exact bD.dN (w:=w) (w':=w) hG hk h
theorem aC.conv (h:aC P E w0 I0 n s a w I be) (d:Nat) (h':aC P E w0 I0 n {s with b:=bF s.b d none,a:=a',u:=u'} a w I' be) (c:Nat->Nat->Option AV) (hG:cH w w I I')
  (hc:∀off len v x,viewAt P w be s.b d off len v->c off len=some x->cj w I' v x):aC P E w0 I0 n {s.cv d c with a:=a',u:=u'} a w I' be:=by
 have hn:∀d',Q1 s.b d (s.g d) c d'≠none->bF s.b d none d'≠none:=λd' hd=>by obtain⟨h1,h2⟩:=MW hd;rw[ay _ _ h1];exact h2
 refine⟨h'.since,h'.size,h'.defers,λt ht=>Gf hG hc (h.cr t ht),λd' x hx=>?_,λd1 d2 B h1 h2=>h'.inj d1 d2 B (hn d1 h1) (hn d2 h2),λd1 B h1=>h'.own d1 B (hn d1 h1),λd1 bo h1 h2 h3=>h'.tie d1 bo h1 h2 (hn d1 h3),?_⟩
 ·have bV:Q1 s.b d (s.g d) c d'=some x:=hx;obtain⟨hd,_⟩:=MW (by rw[bV];simp:Q1 s.b d (s.g d) c d'≠none);simp only[Q1,hd,bY,ck]at bV;obtain⟨y,hy,rfl⟩:=bV;have hb:=h.boxes d' y hy;cases y with
  |cells cs=>obtain⟨B,cur,t,h1,h2,h3,h4⟩:=hb;refine⟨B,cur,t,h1,h2,by simpa using h3,λj r hj=>?_⟩;simp only[dd,ck]at hj;obtain⟨r0,Q2,rfl⟩:=hj;exact Gf hG hc (h4 j r0 Q2)|aT e ys=>
   obtain⟨h1,h2,h3,h4⟩:=hb;refine⟨h1,h2,h3,?_⟩;cases hB:be d' with
   |none=>rw[hB]at h4;exact h4|some B=>rw[hB]at h4;obtain⟨cur,cap,q1,q2,q3,q4,q5⟩:=h4;exact⟨cur,cap,q1,q2,q3,q4,λi j x c h1 h2=>(q5 i j x c h1 h2).mono hG⟩
 ·refine ⟨h'.aO.obj,h'.aO.inj,λi B h1 h2=>?_,h'.aO.un,h'.aO.ro⟩;obtain⟨q1,q2,q3,q4,q5⟩:=h'.aO.own i B h1 h2;exact⟨q1,q2,q3,q4,λ⟨d1,h3,h4⟩=>q5 ⟨d1,hn d1 h3,h4⟩⟩
theorem vP{e:Nat}(hb:s.b d=some (.aT e xs))(h:Rel P E w0 I0 n s a w):Rel P E w0 I0 n (s.cv d λoff len=>some (.sl ((xs.drop off).take len))) a w:=by obtain⟨I,be,h⟩:=h;have hg:=h.J1 d;have hG:cH w w I (I.plus λp=>∃B,s.b d≠none/\be d=some B/\p.block=B):=.plus _ _ _;refine⟨_,be,h.conv (a':=s.a) (u':=s.u) d hg (λoff len=>some (.sl ((xs.drop off).take len))) hG λoff len v x hv hx=>?_⟩;injection hx with hx;subst hx;exact o8 hb (h.boxes d _ hb) hv hG (λB hB p hp=>.inr ⟨B,by simp[hb],hB,hp⟩)
def rI(i sz:Nat)(off len:Nat):Option AV:=if off=0 then some (.view i sz len)else none
theorem C9(h:aC P E w0 I0 n s a w I be){e B:Nat}(hb:s.b d=some (.aT e xs))(hB:be d=some B)(hv:viewAt P w be s.b d 0 len v):cj w (I.lay i B) v (.view i (P.cellsOf e) len):=by
 unfold viewAt at hv;simp only[hb,hB]at hv;obtain⟨hl,cur,cap,A,h1,h2,rfl,h4⟩:=hv;obtain⟨lv,_,_,h5⟩:=h.boxes d _ hb;rw[hB]at h5;obtain⟨fE,eY,q1,q2,q3,q4,_⟩:=h5;rw[h1]at q1;injection q1 with q1;injection q1 with q1 _;subst q1;have hc:eY=cap:=o9 lv (q2.symm.trans h2);subst hc;have JD:(I.lay i B).ar i=some B:=by simp[Cells.lay]
 exact cj.view i (P.cellsOf e) len B (eY-0) e cur A JD h1 (by simpa using h2) (by simp at hl;omega) (λhc=>by simpa using h4 (by omega))
theorem MX{e sz:Nat}(hb:s.b d=some (.aT e []))(h:Rel P E w0 I0 n s a w):Rel P E w0 I0 n (s.cv d (rI i sz)) a w:=by
 obtain⟨I,be,h⟩:=h;refine⟨I,be,h.conv d (h.drop d) _ (cH.refl w I) λoff len v x hv hx=>?_⟩;unfold rI at hx;split at hx
 ·rename_i h0;subst h0;injection hx with hx;subst hx;unfold viewAt at hv;simp only[hb]at hv;obtain⟨hl,hv⟩:=hv;have:len=0:=by simp at hl;omega
  subst this;cases hB:be d with
  |none=>rw[hB]at hv;obtain ⟨A,rfl⟩:=hv;exact .qv i sz A 0 (eC _)|some B=>rw[hB]at hv;obtain⟨cur,cap,A,g1,g2,rfl,_⟩:=hv;obtain⟨lv,_,_,h5⟩:=h.boxes d _ hb;rw[hB]at h5;obtain⟨fE,eY,q1,q2,q3,_⟩:=h5;rw[g1]at q1;cases q1;have hc:eY=cap:=o9 lv (q2.symm.trans g2);exact .qv i sz A _ (by omega)
 ·cases hx
theorem Q3(hE:E.fixed=false){e:Nat}(hb:s.b d=some (.aT e xs))(hu:s.u i=false)(dA:xs≠[])(h:Rel P E w0 I0 n s a w):
  Rel P E w0 I0 n {s.cv d (rI i (P.cellsOf e))with a:=bF s.a i (some (.aT e xs)),u:=bF s.u i true} a w:=by
 obtain⟨I,be,h⟩:=h;cases hB:be d with
 |none=>obtain⟨_,_,_,h4⟩:=h.boxes d _ hb;rw[hB]at h4;exact(dA h4).elim|some B=>
  have hs:=h.JW hE i hu d hb hB;have hG:cH w w I (I.lay i B):=.lay (h.aO.un i hu);refine⟨_,be,h.conv d hs _ hG λoff len v x hv hx=>?_⟩;unfold rI at hx;split at hx
  ·rename_i h0;subst h0;injection hx with hx;subst hx;exact C9 h hb hB hv
  ·cases hx
theorem MY(hE:E.fixed=false)(t:Nat){e:Nat}(hr:s.r t=.view d gg 0 len)(hg:gg=s.g d)(hb:s.b d=some (.aT e xs))(hu:s.u i=false)(dA:xs≠[])(h:Rel P E w0 I0 n s a w):
  Rel P E w0 I0 n {s with r:=bF s.r t (.val (.view i (P.cellsOf e) len)),b:=bF s.b d none,a:=bF s.a i (some (.aT e xs)),u:=bF s.u i true} a w:=by
 obtain⟨I,be,h⟩:=h;cases hB:be d with
 |none=>obtain⟨_,_,_,h4⟩:=h.boxes d _ hb;rw[hB]at h4;exact(dA h4).elim|some B=>
  have hs:=h.JW hE i hu d hb hB;refine⟨_,be,hs.since,hs.size,hs.defers,λt' ht=>?_,hs.boxes,hs.inj,hs.own,hs.tie,hs.aO⟩;by_cases ot:t'=t
  ·subst ot;have h1:=h.cr t' ht;rw[hr]at h1;simp only[bA];exact C9 h hb hB (h1.2 hg)
  ·have h1:=hs.cr t' ht;simpa only[ay _ _ ot]using h1
end
section
variable{P:Program}{E:Env}{w0:World}{I0:Cells}{n:Nat}{o:Oper}{s:St}
theorem xF(ht:P.underlying t=some (.pointer e))(p:Option Addr)(w:World):(Op.equal t (.pointer p) (.pointer none)).run P w=.ok p.isNone w:=by
 have h:∀d:Nat,(Op.equalIn (d+1) t (.pointer p) (.pointer none)).run P w=.ok p.isNone w:=λd=>by cases p<;>simp[Op.equalIn,dr ht]
 exact h 9999
theorem xG{k:TypeId}(ht:P.underlying t=some (.map k e))(p:Option Nat)(w:World):(Op.equal t (.map p) (.map none)).run P w=.ok p.isNone w:=by
 have h:∀d:Nat,(Op.equalIn (d+1) t (.map p) (.map none)).run P w=.ok p.isNone w:=λd=>by cases p<;>simp[Op.equalIn,dr ht]
 exact h 9999
theorem xH{x:Operand}(ho:o.op=.binOp op t x y t')(ax:aJ n o=true)(ht:P.underlying t=some (.pointer e))(sX:op=.eql∨op=.neq)(hy:s.ev y=.val (.fl (.pointer none)))
  (hx:∀(w:World)(I:Cells)(be:Nat->Option Nat)(v:Value),bD P w I be s.b s.g v (s.ev x)->∃p:Option Addr,v=.pointer p/\p.isNone=b):dm P E w0 I0 n o s (.val (.fl (.bool (if op=.eql then b else !b)))):=by
 intro a w I be hR;obtain⟨p,hv,hb⟩:=hx w I be _ (au ax (x:=x) (by simp[ho,Op.operands]) hR);have h2:=au ax (x:=y) (by simp[ho,Op.operands]) hR;rw[hy]at h2;have h2:=bR h2;have he:=xF ht p w;refine⟨.bool (if op=.eql then b else !b),?_,cj.fl _ rfl⟩;have hg:∀z,(eqGuard op t x z (.pointer p) (.pointer none)).run P w=.ok () w:=λz=>by rcases sX with rfl|rfl<;>rfl
 rcases sX with rfl|rfl
 ·have dZ:(binOp .eql t (.pointer p) (.pointer none)).run P w=.ok (.bool p.isNone) w:=by simp only[binOp,bJ,he,bX,b9]
  simp only[execOp,ho,hv,h2,bJ,hg,bX,dZ,b9,bp,hb]
 ·have dZ:(binOp .neq t (.pointer p) (.pointer none)).run P w=.ok (.bool (!p.isNone)) w:=by simp only[binOp,bJ,he,bX,b9]
  simp only[execOp,ho,hv,h2,bJ,hg,bX,dZ,b9,reduceCtorEq,bY,hb]
theorem HP{k:TypeId}{x:Operand}(ho:o.op=.binOp op t x y t')(ax:aJ n o=true)(ht:P.underlying t=some (.map k e))(sX:op=.eql∨op=.neq)(hy:s.ev y=.val (.fl (.map none)))
  (hx:∀(w:World)(I:Cells)(be:Nat->Option Nat)(v:Value),bD P w I be s.b s.g v (s.ev x)->∃p:Option Nat,v=.map p/\p.isNone=b):dm P E w0 I0 n o s (.val (.fl (.bool (if op=.eql then b else !b)))):=by
 intro a w I be hR;obtain⟨p,hv,hb⟩:=hx w I be _ (au ax (x:=x) (by simp[ho,Op.operands]) hR);have h2:=au ax (x:=y) (by simp[ho,Op.operands]) hR;rw[hy]at h2;have h2:=bR h2;have he:=xG ht p w;refine⟨.bool (if op=.eql then b else !b),?_,cj.fl _ rfl⟩;have hg:∀z,(eqGuard op t x z (.map p) (.map none)).run P w=.ok () w:=λz=>by rcases sX with rfl|rfl<;>rfl
 rcases sX with rfl|rfl
 ·have dZ:(binOp .eql t (.map p) (.map none)).run P w=.ok (.bool p.isNone) w:=by simp only[binOp,bJ,he,bX,b9]
  simp only[execOp,ho,hv,h2,bJ,hg,bX,dZ,b9,bp,hb]
 ·have dZ:(binOp .neq t (.map p) (.map none)).run P w=.ok (.bool (!p.isNone)) w:=by simp only[binOp,bJ,he,bX,b9]
  simp only[execOp,ho,hv,h2,bJ,hg,bX,dZ,b9,reduceCtorEq,bY,hb]
theorem ij{x:Operand}(ho:o.op=.nilCheck x)(ax:aJ n o=true)(hx:∀(w:World)(I:Cells)(be:Nat->Option Nat)(v:Value),bD P w I be s.b s.g v (s.ev x)->∃p:Addr,v=.pointer (some p)):dm P E w0 I0 n o s (s.ev x):=by intro a w I be hR;have h1:=au ax (x:=x) (by simp[ho,Op.operands]) hR;obtain⟨p,hv⟩:=hx w I be _ h1;refine⟨a.eval x,?_,h1⟩;simp only[execOp,ho,hv,b9]
theorem xI{w:World}{I:Cells}(h:cj w I v (.ptr i off)):∃p:Addr,v=.pointer (some p):=by obtain⟨B,_,e⟩:=np h;exact⟨_,e⟩
theorem Da{w:World}{I:Cells}{cs:List AV}(h:cj w I v (.ref cs)):∃p:Addr,v=.pointer (some p):=by
 cases h with
 |ref p cs cv hc hI hr=>exact ⟨p,rfl⟩
theorem xJ{w:World}{I:Cells}(h:cj w I v (.mp i)):∃B,I.ar i=some B/\v=.map (some B):=by
 cases h with
 |mp i B h=>exact ⟨B,h,rfl⟩
theorem AU{x:Operand}(ho:o.op=.binOp op t x y t')(ax:aJ n o=true)(sX:op=.eql∨op=.neq)(hy:y=.const (.slice none 0 0))(ht:P.underlying t=some (.slice e))(hx:bh (s.ev x)=some (.sl xs)){K:St->Prop}
  (hK:∀b:Bool,(b=true->xs=[])->K (s.put o.dst (.val (.fl (.bool (if op=.eql then b else !b)))))):Sound P E w0 I0 n o s K:=by
 subst hy;rintro a w ⟨I,be,hR⟩ Qc;have h1:=c9 (au ax (x:=x) (by simp[ho,Op.operands]) hR) hx;have sl:∃(A:Option Addr)(m c:Nat),a.eval x=.slice A m c/\(A.isNone=true->xs=[]):=by
  generalize a.eval x=v at h1;cases h1 with
  |fJ c=>exact ⟨none,0,c,rfl,λ_=>rfl⟩|sl p m cap sz xs cv hn gy iE dh hc hI hr=>exact ⟨some p,m,cap,rfl,λh=>by cases h⟩
 obtain⟨A,m,c,hv,hA⟩:=sl;have hg:∀z,(eqGuard op t x z (.slice A m c) (.slice none 0 0)).run P w=.ok () w:=λz=>by rcases sX with rfl|rfl<;>rfl
 have cu:(execOp a.eval o).run P w=.ok (.value (.bool (if op=.eql then A.isNone else !A.isNone))) w:=by
  have he:=u4 ht A m c w;have h2:a.eval (.const (.slice none 0 0))=.slice none 0 0:=rfl;rcases sX with rfl|rfl
  ·have hb:(binOp .eql t (.slice A m c) (.slice none 0 0)).run P w=.ok (.bool A.isNone) w:=by simp only[binOp,bJ,he,bX,b9]
   simp only[execOp,ho,hv,h2,bJ,hg,bX,hb,b9,bp]
  ·have hb:(binOp .neq t (.slice A m c) (.slice none 0 0)).run P w=.ok (.bool (!A.isNone)) w:=by simp only[binOp,bJ,he,bX,b9]
   simp only[execOp,ho,hv,h2,bJ,hg,bX,hb,b9,reduceCtorEq,bY]
 exact eA cu ⟨_,⟨I,be,hR.put o.dst (r:=.val (.fl (.bool (if op=.eql then A.isNone else !A.isNone)))) (cj.fl _ rfl)⟩,hK _ hA⟩
end
end Go.Ev
