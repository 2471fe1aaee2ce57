import Derived.Test.YticakdhfjeljkaaGreatDoorRows
import Derived.Test.YticakdhfjeljkaaGreatDoorZ14
set_option linter.all false
set_option maxRecDepth 20000
open Option renaming some->O,none->Y
open Bool renaming true->W,false->F
open Go.Proofs.Tryz
noncomputable section
namespace Go.Proofs.Mo
open Go Go.Ev Go.X Go.Proofs
section
theorem ee.below {E:cd} {w0 w:af} {I0:aA} (d:E.hS w0) (e:∀p,I0 p->p.block<w0.heap.size/\¬E.cf w0 p.block) (a:RowKit.Below w0.heap.size w0 w):ee E w0 I0 w I0:=(ee.refl d e).step a.os a.tape a.output a.size (λ_=>False) (λk b _=>a.block k b) (λk b=>b.elim) (λB cur t f c=>⟨cur,(a.block B (rr.1 c).1).trans c,rfl⟩) (λ_ h=>h) rfl (λ_ h=>.inl h)
theorem FY{P:ai}{E:cd}{f:bH}{d:Z AV}{v:ag}{rs:Z ag}(k:Enters P f)(g:∀x∈rs,Vt x)(hv:(∃x,rs=[x]/\v=x)∨(1<rs.length/\v=.tuple rs.toArray))
  (h:∀(w0:af)(I0:aA)(vs:Array ag),E.hS w0->lN w0 I0 vs.toList d->Calls P f vs w0 λe w=>e=.returned v/\RowKit.Below w0.heap.size w0 w):tq P E f d (.ret (rs.map λx=>.v (.fl x))):=by
 refine⟨k,λw0 I0 vs i l m=>(h w0 I0 vs i m).mono λe w n=>?_⟩;obtain⟨rfl,o⟩:=n;refine⟨v,I0,λ_=>Y,rfl,ee.below (E:=E.plain) i l o,?_,(λj s B h=>by cases h),(λj B h=>by cases h),mX.none λ_=>rfl⟩;rcases hv with⟨x,rfl,rfl⟩|⟨p,rfl⟩
 .exact .fl _ (g _ aH)
 .match rs,p with
  |a::b::rs,_=>
   refine⟨_,rfl,aH,λj r c=>?_⟩;replace c:((a::b::rs).map λx=>RV.v (AV.fl x))[j]?=O r:=c;rw[gu,c8]at c;obtain⟨x,q,rfl⟩:=c;have:(a::b::rs).toArray.getD j undef=x:=by simp_all
   show cy _ _ _ _;rw[this];exact .fl _ (g _ (bW q))
theorem aeD{w:af}{I:aA}{vs:Array ag}{x:ag}(h:lN w I vs.toList [.fl x]):vs=#[x]:=by
 obtain⟨b,a⟩:=h;have h0:=bV (a 0 (vs.toList.getD 0 undef) _ (by grind) rfl)
 grind
variable(N:Nat)
def ZW(N:Nat):Int×Int->V bP:=λ(n,b)=>(dv (decide (b=10)&&(decide (-9223372036854775808<=n)&&decide (n<=9223372036854775807)))).bind λ_=>O (Lib.itoa n)
abbrev aeE:bZ U:=⟨[.I,.I],[.v .str],Y,.pure (ZW N)⟩
def ZX(N:Nat):bP->V (Int×Int):=λs=>(dv (decide (s.length<=281474976710656))).bind λ_=>O (nL s)
abbrev aeF:bZ U:=⟨[.str],[.v .I,.v .I],Y,.pure (ZX N)⟩
theorem aeG:Holds 129 (aeF N):=λE f=>gI ap (by
 intro s j r g b;obtain⟨a,_,rfl,⟨_,rfl⟩,rfl⟩:=g;obtain⟨_,d,b⟩:=bind_some b;have d:=e4 (dy d);obtain rfl:=cJ b;change bP at s;refine FY (v:=.tuple #[.int .i64 (nL s).1,.int .i64 (nL s).2]) (rs:=[.int .i64 (nL s).1,.int .i64 (nL s).2]) (Go.Proofs.enters_of (fn:=f129) ap ap (c:=f129.body.getD .skip) ap) (λx e=>by simp at e;rcases e with rfl|rfl<;>rfl) (.inr ⟨aH,rfl⟩) λw0 I0 vs h i=>?_;obtain rfl:=aeD (x:=bs s) i;have:=ZV ⟨s.toArray⟩ (by simpa[ByteArray.size]using d) w0 (f.laid w0 h)
 grind)
theorem aeH:Holds 206 (aeE N):=λE h=>gI ap (by
 intro x q r i d;obtain⟨a,_,rfl,⟨_,rfl⟩,b,_,rfl,⟨_,rfl⟩,rfl⟩:=i;obtain⟨n,b⟩:=x;change Int at n b;obtain⟨_,e,d⟩:=bind_some d;have e:=dy e;simp only[aP,aV]at e;obtain⟨f,j,k⟩:=e;obtain rfl:=cJ d;refine FY (v:=bs (Lib.itoa n)) (rs:=[bs (Lib.itoa n)]) (Go.Proofs.enters_of (fn:=f206) ap ap (c:=f206.body.getD .skip) ap) (λx g=>by simp at g;subst g;rfl) (.inl ⟨_,rfl,rfl⟩) λw0 I0 vs l m=>?_;have o:vs=#[.int .i64 n,.int .i64 b]:=by
  obtain⟨p,d⟩:=m;have p:vs.size=2:=by grind
  have h0:=bV (d 0 vs[0] (.fl (.int .i64 n)) aH rfl);have f:=bV (d 1 vs[1] (.fl (.int .i64 b)) aH rfl)
  grind
 subst o;exact Ii n b f j k w0 (h.laid w0 l))
end
end Go.Proofs.Mo
namespace Go.Proofs.Mo
open Go Go.Ev
section
def oW:Z Nat:=[1,2,3]
def EL(c:af):cd where
 hS w:=∀b∈oW,b<w.heap.size/\w.heap[b]?=c.heap[b]?
 cf _ b:=b∈oW
 iU w w' h d:=⟨λb a=>by grind,λb a=>a⟩
 lt w b h a:=(h b a).1
theorem Re{a w:af}(d:rl a)(h:∀b∈oW,w.heap[b]?=a.heap[b]?):rl w:=by
 obtain⟨j,e⟩:=d;have k:Tryz.prog.globalNamed "internal/strconv.uint64pow10" =O 1:=ap;have l:Tryz.prog.globalNamed "strconv.ErrSyntax" =O 2:=ap;have m:Tryz.prog.globalNamed "strconv.ErrRange" =O 3:=ap;refine⟨?_,λf c g i=>?_⟩
 grind [Lib.TabIs,World.var?,oW]
 .obtain ⟨n,o,p⟩:=e f c g i;have q:g∈oW:=by
   rcases c with rfl|rfl
   grind [oW]
   grind [oW]
  grind [World.cell?]
def ad8{a:af}(c:rl a):oN (EL a):=⟨λ_=>rfl,λw h=>Re c λb d=>(h b d).2⟩
mutual
def calm:AV->aa
 |.fl (.int k _)=>k==.i64|.fl (.bool _)=>W
 |.fl (.string _)=>W|.sl xs=>xn xs
 |.agg xs=>xn xs|_=>F
def xn:Z AV->aa
 |[]=>W|x::r=>calm x&&xn r
end
theorem tj:∀{l:Z AV},xn l=W->∀x∈l,calm x=W
 |y::r,h,x,a=>by
  simp only[xn,aP]at h;rcases fb.1 a with e|e
  grind
  .exact tj h.2 x e
def Ee:∀{l:Z AV},(∀x∈l,calm x=W)->xn l=W
 |[],_=>rfl|y::r,h=>by simp only[xn,aP];exact⟨h y aH,Ee λx a=>h x (by simp[a])⟩
theorem Ef{x:AV}(h:calm x=W):∀c∈x.cells,calm c=W:=by
 cases x with
 |agg xs=>grind [pQ,tj,calm]|_=>intro c a;simp only[AV.cells,gD]at a;rw[a];exact h
mutual
def Sh.AA:Ev.Sh->aa
 |.bool=>W|.int k=>k==.i64
 |.string=>W|.slice e=>Sh.AA e
 |.struct fs=>xt.AA fs
def xt.AA:Ev.xt->aa
 |.nil=>W|.cons s r=>Sh.AA s&&xt.AA r
end
mutual
theorem y6{K:Nat}:∀{s:Ev.Sh}{x:AV},Sh.AA s=W->s.iy K x->calm x=W
 |.bool,x,he,h=>by obtain ⟨b,rfl⟩:=h;rfl|.int k,x,he,h=>by obtain ⟨n,rfl,_⟩:=h;exact he
 |.string,x,he,h=>by obtain ⟨l,rfl,_⟩:=h;rfl|.slice e,x,he,h=>by obtain⟨xs,rfl,_,h⟩:=h;show xn xs=W;exact Ee λy a=>y6 (s:=e) (by simpa[Sh.AA]using he) (h y a)
 |.struct fs,x,he,h=>by obtain⟨cs,rfl,h⟩:=h;show xn cs=W;exact Ee (Eg (fs:=fs) (by simpa[Sh.AA]using he) h)
theorem Eg{K:Nat}:∀{fs:Ev.xt}{cs:Z AV},xt.AA fs=W->fs.iy K cs->∀c∈cs,calm c=W
 |.nil,cs,he,h,c,a=>by rw[show cs=[]from h]at a;cases a
 |.cons s r,cs,he,h,c,a=>by
  simp only[xt.AA,aP]at he;obtain⟨x,ds,b,d,rfl⟩:=h;rcases fK.1 a with a|a
  .exact Ef (y6 he.1 b) c a
  .exact Eg he.2 d c a
end
def aba(v:ag):Prop:=(∃n,v=.int .u64 n)∨∃t u,v=.iface t u
def Vk{w:af}{I:aA}{v:ag}{x:AV}(h:cy w I v x)(a:calm x=W):¬aba v:=by
 rintro(⟨n,rfl⟩|⟨t,u,rfl⟩)
 .cases h;simp[calm]at a
 .cases h<;>simp[calm]at a
def cy.ai4 {w:af} {I I':aA} (m:∀(p:bY)(v:ag),I p->w.cell? p=O v->¬aba v->I' p) {v:ag} {x:AV} (h:cy w I v x):calm x=W->cy w I' v x:=by
 induction h with
 |fl v h=>exact λ_=>.fl v h|fc c=>exact λ_=>.fc c
 |sl a n cap sz xs o q r s hsz e t k g=>intro f;have l:∀(i j:Nat)(x c:AV),xs[i]?=O x->x.cells[j]?=O c->calm c=W:=λi j x c b d=>Ef (tj (by simpa[calm]using f) x (bW b)) c (bW d);exact .sl a n cap sz xs o q r s hsz e (λi j x c b d=>m _ _ (t i j x c b d) (e i j x c b d) (Vk (k i j x c b d) (l i j x c b d))) λi j x c b d=>g i j x c b d (l i j x c b d)|agg vs cs u k g=>
  intro f;exact .agg vs cs u λj c e=>g j c e (tj (by simpa[calm]using f) c (bW e))
 |_=>intro f;simp[calm]at f
def Vl(a:af):Prop:=∀(p:bY)(v:ag),p.block∈oW->a.cell? p=O v->aba v
def AT(a:af):aA:=⟨λp=>p.block<a.heap.size/\p.block∉oW,λ_=>Y⟩
def Rg{a:af}(b:Vl a){v:ag}{x:AV}(h:cy a (World.all a) v x)(c:calm x=W):cy a (AT a) v x:=cy.ai4 (I:=World.all a) (I':=AT a) (λp v d hv e=>⟨d,λf=>e (b p v f hv)⟩) h c
open RowKit
section
variable{H:Type}{enc:an×ag->H}{P:ai}
theorem Vm{K:Nat}{Q:DataW H->Prop}(A:Eb K Q){NR:bH}{f:Func}{s:ChangeSpec}{B C D:aa}{a:af}{base:Nat}{args:Array ag}{g l:Z (DataW H)}{E:Z MemPlace}{m:an}{ss:Z Ev.Sh}(G:laidOutB P=W)(i:(f.params.toList.all λt=>P.readableRec t&&decide (t<P.types.size))=W)
  (J:f.resultTypes=#[m]) (L:P.underlying m=O .bool) (hv:s.vars=[]) (N:s.fn H (g++l)={results:=[.lit (.bool W)],args:=g}) (R:th P ss f.params.toList=W) (j0:ss.all Sh.AA=W)
  (S:∀(j:Nat) t v,f.params[j]?=O t->args[j]?=O v->Value.okWide P a .any base t v) (n:DataW.Whole enc P f.params.toList s.vars F a args.toList g l E)
  (T:∀d∈g,Q d) (U:(EL a).hS a) (X:Vl a) (a0:∀xs,Aa K ss xs->tq P (EL a) NR xs (.ret [.v (.fl (.bool W))])):Calls P NR args a λe o=>∃v,e=.returned v/\s.post enc P f F B C D a args v o:=by
 have b0:=n;obtain⟨p,q,c0,_⟩:=b0;obtain⟨xs,r,u⟩:=Lp A (ss:=ss) R (λj t v k0 hv=>S j t v (by grind) (by grind)) c0 T;have d0:∀x∈xs,calm x=W:=by
  have:∀(ss:Z Ev.Sh)(xs:Z AV),ss.all Sh.AA=W->Aa K ss xs->∀x∈xs,calm x=W:=by
   intro ss;induction ss with
   |nil=>grind [Gt]|cons s ss l0=>
    intro xs e0 h x r;obtain⟨y,ys,rfl,m0,n0⟩:=vw h;simp only[tC,aP]at e0
    grind [y6]
  grind
 have f0:lN a (AT a) args.toList xs:=⟨u.1,λj v c hv w=>Rg X (u.2 j v c hv w) (d0 c (bW w))⟩
 refine((a0 xs r).2 a (AT a) args U (λp i=>i) f0).mono λe o h=>?_;obtain⟨v,I,bo,rfl,b,g0,_⟩:=h;have h0:v=.bool W:=bV g0;subst h0;refine⟨_,rfl,Rc G i J L hv N n ⟨b.os,b.tape,b.output,b.size,λk i0=>?_⟩⟩;by_cases z:k∈oW
 .exact (b.hS k z).2
 .exact b.block k i0 z (cd.eO _ k)
end
end
end Go.Proofs.Mo
namespace Go.Proofs.Mo
open Go Go.Ev Go.Proofs.YticakdhfjeljkaaGreatDoor
theorem Ej{P:ai}{w:af}{base:Nat}{b:Nat->aa}{a:Nat}{t:an}{c:Array (String×an)}{cs:Z ag}{H:Type}{enc:an×ag->H}{e:String}{d:DataW H}{p:Z MemPlace}(f:P.underlying t=O (.interface c))
  (h:DataW.trod enc P w base b F a t cs=O (.iface e d,p)):∃u v,cs=[.iface u v]:=by
 cases a with
 |zero=>simp[DataW.trod]at h|succ a=>simp only[DataW.trod,f]at h;split at h<;>first|exact ⟨_,_,rfl⟩|(simp at h;done)|simp_all
def Lt:Z (String×DataW ab):=Rows.denoteValuesUptoRow.laid
theorem NC{a:af}(h:laidMetH Tryz.prog Lt a):rl a/\(EL a).hS a/\Vl a:=by
 have r:laidMet Tryz.prog Lt a:=h;obtain⟨ps,⟨_,_,_,_,_,_,_,_,_,_,⟨_,_,_,_,_,_,_,_,_,_,⟨K,t0,c0,f0,L,N,a0,b0,d0,e0,⟨P,t2,c2,f2,Q,R,a2,b2,d2,e2,⟨S,t1,c,f1,T,q1,s,t,d1,e1,_⟩,_⟩,_⟩,_⟩,_⟩,_⟩:=r;have d:Tryz.prog.globalNamed "internal/strconv.uint64pow10" =O 1:=ap;have e:Tryz.prog.globalNamed "strconv.ErrSyntax" =O 2:=ap;have f:Tryz.prog.globalNamed "strconv.ErrRange" =O 3:=ap;have u:(Tryz.prog.globals[1]?).map (·.type)=O 377:=ap;have w:(Tryz.prog.globals[2]?).map (·.type)=O 306:=ap;have x:(Tryz.prog.globals[3]?).map (·.type)=O 306:=ap;obtain rfl:=cJ (d.symm.trans a0);obtain rfl:=cJ (e.symm.trans s);obtain rfl:=cJ (f.symm.trans a2);obtain rfl:=cJ (u.symm.trans b0);obtain rfl:=cJ (w.symm.trans t);obtain rfl:=cJ (x.symm.trans b2);have i:Tryz.prog.underlying 306=O (.interface #[("Error",339)]):=ap;have y:Tryz.prog.underlying 377=O (.array 20 287):=ap;have A:Tryz.prog.underlying 287=O (.int .u64):=ap;have B:Tryz.prog.cellsOf 287=1:=ap;have C:Tryz.prog.cellsOf 377=20:=ap;have D:c0.toList=Lib.pow10Tab.map λz=>Value.int .u64 z:=Lib.cells_of_tab y A B C (by exact e0);obtain⟨j,v1,E⟩:=Ej i e1;obtain⟨k,v2,G⟩:=Ej i e2;obtain rfl:c0=(Lib.pow10Tab.map λz=>Value.int .u64 z).toArray:=by rw[<-D]
 obtain rfl:c=#[.iface j v1]:=by rw[<-Array.toArray_toList (xs:=c),E]
 obtain rfl:c2=#[.iface k v2]:=by rw[<-Array.toArray_toList (xs:=c2),G]
 have l:=World.var?_cell d d0;have m:=World.var?_cell e d1;have n:=World.var?_cell f d2;refine⟨⟨d0,λU H g X=>?_⟩,λb o=>⟨?_,rfl⟩,λp v q hv=>?_⟩
 .rcases H with rfl|rfl
  grind
  grind
 .simp only[oW,fb,List.not_mem_nil,or_false]at o;rcases o with rfl|rfl|rfl
  .exact mw ((l 0).trans rfl)
  .exact mw ((m 0).trans rfl)
  .exact mw ((n 0).trans rfl)
 .obtain ⟨b,off,I⟩:=p;have J:I=Y:=World.cell?_spot hv;subst J;simp only[oW,fb,List.not_mem_nil,or_false]at q;rcases q with rfl|rfl|rfl
  .rw[l off,EX,gu,c8]at hv;obtain⟨z,_,rfl⟩:=hv;exact .inl ⟨z,rfl⟩
  .rw[m off]at hv;have:=kQ hv;simp at this;exact .inr ⟨j,v1,this⟩
  .rw[n off]at hv;have:=kQ hv;simp at this;exact .inr ⟨k,v2,this⟩
end Go.Proofs.Mo
