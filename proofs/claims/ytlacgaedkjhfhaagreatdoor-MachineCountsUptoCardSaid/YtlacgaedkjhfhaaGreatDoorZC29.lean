import Derived.DataReads
import Derived.DataElems
import Derived.ChangeArms
import Derived.Deep.Slices
import GoSem.ClaimChange
import Derived.Carry
import Derived.ChangeSame
import Derived.OpenShut
import Derived.RowKit
import Derived.ProofKit
import Derived.Test.YtlacgaedkjhfhaaGreatDoorZC28
set_option linter.all false
open Option renaming some->O,none->Y
open Bool renaming true->W,false->F
open Go.Proofs.Tryz
namespace Go.Ev
open Go
mutual
inductive Sh where
 |bool
 |int (k:IntKind)
 |string
 |slice (e:Sh)
 |struct (fs:zm)
inductive zm where
 |nil
 |cons (s:Sh) (r:zm)
end
mutual
def Sh.size:Sh->Nat
 |.struct fs=>fs.size|_=>1
def zm.size:zm->Nat
 |.nil=>0|.cons s r=>s.size+r.size
end
def Sh.aV:Sh->tl
 |.struct _=>W|_=>F
mutual
def Sh.cE (P:qK):Sh->JA->tl
 |.bool,t=>match P.underlying t with
  |some .bool=>P.cellsOf t==1|_=>F
 |.int k,t=>match P.underlying t with
  |some (.int k')=>k'==k&&P.cellsOf t==1|_=>F
 |.string,t=>match P.underlying t with
  |some .string=>P.cellsOf t==1|_=>F
 |.slice e,t=>match P.underlying t with
  |some (.slice a)=>e.cE P a&&P.cellsOf t==1|_=>F
 |.struct fs,t=>match P.underlying t with
  |some (.struct b)=>fs.cE P 0 (b.toList.map λf=>(f.offset,f.type))&&P.cellsOf t==fs.size|_=>F
def zm.cE (P:qK):zm->Nat->Z (Nat×JA)->tl
 |.nil,_,[]=>W|.cons s r,k,(o,t)::l=>o==k&&s.cE P t&&r.cE P (k+s.size) l
 |_,_,_=>F
end
mutual
def Sh.EP {P:qK}:∀{s:Sh}{t:JA},s.cE P t=W->P.cellsOf t=s.size
 |.bool,t,h=>by unfold Sh.cE at h;split at h<;>simp_all[Sh.size]|.int k,t,h=>by unfold Sh.cE at h;split at h<;>simp_all[Sh.size]
 |.string,t,h=>by unfold Sh.cE at h;split at h<;>simp_all[Sh.size]|.slice e,t,h=>by unfold Sh.cE at h;split at h<;>simp_all[Sh.size]
 |.struct fs,t,h=>by unfold Sh.cE at h;split at h<;>simp_all[Sh.size]
end
mutual
def Sh.hH (K:Nat):Sh->AV->Prop
 |.bool,x=>∃b,x=.fl (.bool b)|.int k,x=>∃n,x=.fl (.int k n)/\k.min<=n/\n<=k.max
 |.string,x=>∃l,x=.fl (bs l)/\l.length<=K|.slice e,x=>∃xs,x=.sl xs/\xs.length<=K/\∀y∈xs,e.hH K y
 |.struct fs,x=>∃cs,x=.agg cs/\fs.hH K cs
def zm.hH (K:Nat):zm->Z AV->Prop
 |.nil,cs=>cs=[]|.cons s r,cs=>∃x a,s.hH K x/\r.hH K a/\cs=x.cells++a
end
structure xX{H:Type}(K:Nat)(Q:DataW H->Prop):Prop where
 str:∀b:List UInt8,Q (.lit (.string b))->b.length<=maxLen->b.length<=K
 len:∀es sp,Q (.slice es sp)->es.length<=maxLen->es.length<=K
 elem:∀es sp d,Q (.slice es sp)->d∈es->Q d
 part:∀ps d,Q (.agg ps)->d∈ps->Q d
mutual
def Sh.lq {K:Nat}:∀{s:Sh}{x:AV},s.hH K x->x.cells.length=s.size/\x.wf
 |.bool,x,h=>by obtain ⟨b,rfl⟩:=h;simp[AV.cells,Sh.size,AV.wf,AV.isAgg]|.int k,x,h=>by obtain ⟨n,rfl,_⟩:=h;simp[AV.cells,Sh.size,AV.wf,AV.isAgg]
 |.string,x,h=>by obtain ⟨l,rfl,_⟩:=h;simp[AV.cells,Sh.size,AV.wf,AV.isAgg]|.slice e,x,h=>by obtain ⟨xs,rfl,_⟩:=h;simp[AV.cells,Sh.size,AV.wf,AV.isAgg]
 |.struct fs,x,h=>by obtain⟨cs,rfl,h⟩:=h;obtain⟨a,c⟩:=zm.lq h;exact⟨by simpa[AV.cells,Sh.size]using a,by simpa[AV.wf,AV.cells]using c⟩
def zm.lq {K:Nat}:∀{s:zm}{cs:Z AV},s.hH K cs->cs.length=s.size/\∀c∈cs,c.isAgg=F
 |.nil,cs,h=>by simp only[zm.hH]at h;subst h;simp[zm.size]|.cons s r,cs,h=>by
  obtain⟨x,ds,h1,b,rfl⟩:=h;obtain⟨d,e⟩:=Sh.lq h1;obtain⟨f,g⟩:=zm.lq b;refine⟨by simp[zm.size,d,f],λc a=>?_⟩;rcases dR.1 a with a|a
  .exact e c a
  grind
end
def World.all (w:zI):aD:=⟨λp=>p.block<w.heap.size,λ_=>Y⟩
def LP{w:zI}{base:Nat}{a:Mc}{n:Nat}{cs:Z Jz}(h:w.cells? base a n=O cs):cs.length=n/\∀(i:Nat)(v:Jz),cs[i]?=O v->w.cell? (a.add i)=O v:=by
 unfold World.cells? at h;split at h
 .refine ⟨by rw[mapM_some_length h];simp,λi v hv=>?_⟩;have hi:i<n:=by have b:=mapM_some_length h;grind
  have:=mapM_some_get h i i (by grind);rw[this,hv]
 .cases h
def lF{w:zI}{p:Mc}{v:Jz}(h:w.cell? p=O v):p.block<w.heap.size:=by
 unfold World.cell? at h;grind
section
variable{H:Type}{enc:JA×Jz->H}{P:qK}{w:zI}{base:Nat}{sp:Nat->tl}{held:tl}
def uz(w:zI)(cs:Z Jz)(a:Z AV):Prop:=cs.length=a.length/\∀(j:Nat)(v:Jz)(c:AV),cs[j]?=O v->a[j]?=O c->cq w (World.all w) v c
def CK{K:Nat}{Q:DataW H->Prop}{n:Nat}{cs:Z Jz}(h:∀(s:Sh)(t:JA)(cs:Z Jz)(x:DataW H×Z MemPlace),s.cE P t=W->DataW.trod enc P w base sp held n t cs=O x->Q x.1->∃v:AV,s.hH K v/\uz w cs v.cells):
  ∀(fs:zm)(k:Nat)(a:Z Field),fs.cE P k (a.map λf=>(f.offset,f.type))=W->
   (∀f∈a,∃x,DataW.trod enc P w base sp held n f.type ((cs.drop f.offset).take (P.cellsOf f.type))=O x/\Q x.1)->k+fs.size=cs.length->
   ∃row,fs.hH K row/\uz w (cs.drop k) row
 |.nil,k,a,b,hm,d=>by simp only[zm.size]at d;exact⟨[],rfl,by simp[uz,<-d]⟩|.cons s r,k,[],b,hm,d=>by simp[zm.cE]at b|.cons s r,k,f::a,b,hm,d=>by
  simp only[dy,zm.cE,aI,gH]at b;obtain⟨⟨m,i⟩,o⟩:=b;obtain⟨x,p,q⟩:=hm f aE;simp only[zm.size]at d;obtain⟨v,hv,y⟩:=h s f.type _ x i p q;obtain⟨row,z,l⟩:=CK h r (k+s.size) a o (λA B=>hm A (by simp[B])) M;have D:=Sh.EP i;have E:=(Sh.lq hv).1;refine⟨v.cells++row,⟨v,row,hv,z,rfl⟩,?_,λj u c g e=>?_⟩
  .have:=l.1;grind
  .by_cases C:j<v.cells.length
   .rw[fx C]at e;refine y.2 j u c ?_ e;grind
   .rw[im M]at e;refine l.2 (j-v.cells.length) u c ?_ e;grind
def NR{K:Nat}{Q:DataW H->Prop}(B:xX K Q):∀(bT:Nat)(s:Sh)(t:JA)(cs:Z Jz)(x:DataW H×Z MemPlace),s.cE P t=W->DataW.trod enc P w base sp held bT t cs=O x->Q x.1->∃v:AV,s.hH K v/\uz w cs v.cells
 |0,s,t,cs,x,g,h,A=>by simp[DataW.trod]at h|bT+1,s,t,cs,x,g,h,A=>by
  have one:∀(u:Jz)(c:AV),cq w (World.all w) u c->uz w [u] [c]:=λu c D=>⟨rfl,λj v d hv L=>by
   grind⟩
  cases s with
  |bool=>
   unfold Sh.cE at g;split at g
   .rename_i o;obtain⟨b,rfl,_⟩:=DataW.trod_bool o h;exact⟨.fl (.bool b),⟨b,rfl⟩,one _ _ (.fl _ rfl)⟩
   .cases g
  |int k=>
   unfold Sh.cE at g;split at g
   .rename_i k' o;simp only[aI,gH]at g;obtain⟨rfl,_⟩:=g;obtain⟨n,rfl,_,N⟩:=DataW.trod_int o h;simp only[Lit.wf,aI,aU]at N;exact⟨.fl (.int k' n),⟨n,rfl,N⟩,one _ _ (.fl _ rfl)⟩
   .cases g
  |string=>
   unfold Sh.cE at g;split at g
   .rename_i o;obtain⟨b,rfl,rfl,E⟩:=DataW.trod_string o h;exact⟨.fl (.string b),⟨b.data.toList,by rw[AE],B.str _ A (by simp_all)⟩,one _ _ (.fl _ rfl)⟩
   .cases g
  |slice e=>
   unfold Sh.cE at g;split at g
   .rename_i r o;simp only[aI,gH]at g;rcases DataW.trod_slice o h with⟨rfl,_⟩|⟨a,len,cap,p0,rest,n,U,rfl,rfl,_,E,hm,hlen,X,_,_⟩
    .exact ⟨.sl [],⟨[],rfl,aE,aE⟩,one _ _ (.eU 0)⟩
    .obtain rfl:n=bT:=M;have a0:=Sh.EP g.1;have R:∀i,i<len->∃(l:Z Jz)(v:AV),w.cells? base (a.add (i*P.cellsOf r)) (P.cellsOf r)=O l/\e.hH K v/\uz w l v.cells:=λi hi=>by have h1:=X i hi;rw[bS M]at h1;obtain⟨l,p,C⟩:=hG.1 h1;obtain⟨v,b0,c0⟩:=NR B n e r l _ g.1 C (B.elem _ _ _ A (dP.2 ⟨_,gw _,rfl⟩));grind
     have d0:∃f:Nat->AV,∀i,i<len->∃l:Z Jz,w.cells? base (a.add (i*P.cellsOf r)) (P.cellsOf r)=O l/\e.hH K (f i)/\uz w l (f i).cells:=by
      classical
      refine⟨λi=>if h:i<len then Classical.choose (He (R i h))else default,λi hi=>?_⟩;grind
     obtain⟨f,G⟩:=d0;have I:∀(i:Nat)(x:AV),((List.range len).map f)[i]?=O x->i<len/\f i=x:=λi x m=>by grind
     have J:∀(i j:Nat)(x c:AV),((List.range len).map f)[i]?=O x->x.cells[j]?=O c->∃u,w.cell? (a.add (i*P.cellsOf r+j))=O u/\cq w (World.all w) u c:=λi j x c m z=>by
      obtain⟨hi,rfl⟩:=I i x m;obtain⟨l,h1,p,C⟩:=G i hi;have S:j<l.length:=by rw[C.1];grind
      refine⟨l[j],?_,C.2 j _ c (by grind) z⟩;have:=(LP h1).2 j l[j] (by grind);rwa[Addr.add_add]at this
     have e0:=B.len _ _ A cM;refine⟨.sl ((List.range len).map f),⟨_,rfl,by grind,λy f0=>?_⟩,one _ _ (.sl a len cap (P.cellsOf r) _ (λi j=>(w.cell? (a.add (i*P.cellsOf r+j))).getD undef) aE (by grind) hm (λi x m=>?_) (λi j x c m z=>?_) (λi j x c m z=>?_) (λi j x c m z=>?_))⟩
     grind
     .obtain ⟨hi,rfl⟩:=I i x m;have:=Sh.lq (G i hi).choose_spec.2.1;exact⟨this.1.trans a0.symm,this.2⟩
     grind
     .obtain ⟨u,h1,_⟩:=J i j x c m z;exact lF h1
     grind
   .cases g
  |struct fs=>
   unfold Sh.cE at g;split at g
   .rename_i h0 o;simp only[aI,gH]at g;obtain⟨xs,n,U,rfl,i0,j0,l0⟩:=DataW.trod_struct o h;obtain rfl:n=bT:=M;obtain⟨T,m0,D⟩:=CK (n:=n) (cs:=cs) (λs t cs x h1 p C=>NR B n s t cs x h1 p C) fs 0 h0.toList g.1 (λf n0=>by
     obtain⟨i,hi⟩:=List.getElem?_of_mem n0;rw[jO]at hi;have o0:i<xs.length:=by grind
     exact⟨xs[i],by rw[l0 i f hi];simp[o0],B.part _ _ A (dP.2 ⟨_,gw _,rfl⟩)⟩) (by grind)
    exact⟨.agg T,⟨T,rfl,m0⟩,by simpa[oT]using D⟩
   grind
end
end Go.Ev
namespace Go.Ev
open Go Go.ChangeShapes Go.WideShapes Go.RowKit
variable{F0:zI}{s:Sh}{K base:Nat}{t:JA}{r:Reach}{v:Jz}{xs:Z AV}
section
variable{H:Type}{enc:JA×Jz->H}{P:qK}
def sZ(f:laidOutB P=W){F0 g:zI}(i:Below F0.heap.size F0 g){j:Nat->tl}:∀{ts:Z JA}{vs:Z Jz}{ds:Z (DataW H)}{ps:Z MemPlace},
  (ts.all λt=>P.readableRec t&&decide (t<P.types.size))=W->DataW.TrodAll enc P F0 0 (λ_=>W) W ts vs ds ps->(∀x∈ps,x.block<F0.heap.size)->(∀x∈ps,j x.block=W)->DataW.TrodAll enc P g 0 j W ts vs ds ps
 |[],vs,ds,ps,b,h,c,e=>by obtain⟨rfl,rfl,rfl⟩:=trodAll_nil h;exact trodAll_mk0|t::ts,vs,ds,ps,b,h,c,e=>by obtain⟨v,vs,d,ds,p,q,rfl,rfl,rfl,h1,k⟩:=trodAll_cons h;simp only[qQ,aI,aU]at b;exact trodAll_cons_mk (WideElems.Trod_stays f b.1.1 b.1.2 h1 (λx a=>i.same (c x (by grind))) (λx a=>e x (by simp[a]))) (sZ f i b.2 k (λx a=>c x (by grind)) (λx a=>e x (by simp[a])))
def Pk{f:Pz}{s:ChangeSpec}{C D E:tl}{e:zI}{args:Array Jz}{d l:Z (DataW H)}{m:Z MemPlace}{n:JA}(G:laidOutB P=W)(I:(f.params.toList.all λt=>P.readableRec t&&decide (t<P.types.size))=W)
  (o:f.resultTypes=#[n]) (u:P.underlying n=O .bool) (hv:s.vars=[]) (g:s.fn H (d++l)={results:=[.lit (.bool W)],args:=d})
  (h:DataW.Whole enc P f.params.toList s.vars F F0 args.toList d l m) (i:Below F0.heap.size F0 e):s.post enc P f F C D E F0 args (.bool W) e:=by
 have J:=h;have k:∀x∈m,x.block<F0.heap.size:=λx a=>by simpa using h.lt x a
 obtain⟨p,q,K,v,rfl,hz,R⟩:=h;rw[hv]at v;obtain⟨rfl,rfl⟩:=trodVars_none v;have w:∀c:Nat->tl,(∀x∈p++[],c x.block=W)->DataW.TrodAll enc P e 0 c W f.params.toList args.toList (s.fn H (d++[])).args p:=λc L=>by rw[g];exact sZ G i I K (λx a=>k x (by simp[a])) (λx a=>L x (by simp[a]))
 have y:∀(b:Nat)(c:Nat->tl)(z:tl),DataW.TrodAll enc P e b c z f.resultTypes.toList ((Value.bool W).resultList f.resultTypes.size) (s.fn H (d++[])).results []:=λb c z=>by rw[g,o];exact trodAll_cons_mk (shut_bool u _) trodAll_mk0
 have A:∀c:Nat->tl,DataW.TrodVars enc P e c s.vars (s.fn H (d++[])).vars []:=λc=>by rw[g,hv];rfl
 have N:∀(j:Nat)(t:JA)(r:Jz),f.resultTypes[j]?=O t->((Value.bool W).resultList f.resultTypes.size)[j]?=O r->Value.okWide P e .any 0 t r:=ok_one o rfl (okWide_bool_mk u W);refine⟨d,[],p++[],[],p,[],J,y _ _ _,w _ (λx a=>by grind),A _,World.keptBut_mono (λx a=>⟨a,?_⟩) (i.frame (·∈p++[])),λ_=>?_⟩
 grind
 .refine ⟨N,_,_,([]++p)++[],⟨[]++p,[],trodAll_append (w _ (λ_ _=>rfl)) (y _ _ _),A _,rfl,?_,?_⟩,?_⟩
  .intro b off a;have B:MemPlace.cell b off∈p++[]:=by grind
   rw[i.frozen (p:=⟨b,off,Y⟩) (k _ B)];exact hz b off B
  grind
  .intro x a _;simpa using a
def Y8{cs:Array Jz}(b:s.aV=F)(a:s.cE P t=W)(h:Value.okWide P F0 r base t (.agg cs)):False:=by
 cases s with
 |bool=>
  unfold Sh.cE at a;split at a
  .rename_i hu;simp[Value.okWide,hu,Cell.okWide,Cell.ok]at h
  .cases a
 |int k=>
  unfold Sh.cE at a;split at a
  .rename_i hu;simp[Value.okWide,hu,Cell.okWide,Cell.ok]at h
  .cases a
 |string=>
  unfold Sh.cE at a;split at a
  .rename_i hu;simp[Value.okWide,hu,Cell.okWide,Cell.ok]at h
  .cases a
 |slice e=>
  unfold Sh.cE at a;split at a
  .rename_i hu;simp[Value.okWide,hu,Cell.okWide,Cell.ok]at h
  .cases a
 |struct fs=>cases b
def zn(h:∀cs,v≠.agg cs):v.cells=#[v]:=by cases v<;>first|rfl|grind
def VR{Q:DataW H->Prop}(o:xX K Q){d:DataW H}{ps:Z MemPlace}{p:Nat->tl}(g:s.cE P t=W)(l:Value.okWide P F0 r base t v)(h:DataW.Trod enc P F0 0 p W t v d ps)(q:Q d):∃x:AV,s.hH K x/\cq F0 (World.all F0) v x:=by
 obtain⟨u,h⟩:=h;obtain⟨x,a,f⟩:=NR o u s t _ _ g h q;refine⟨x,a,?_⟩;by_cases m:s.aV=W
 .cases s with
  |struct fs=>
   obtain⟨cs,rfl,_⟩:=a;unfold Sh.cE at g;split at g
   .rename_i A w;simp only[Value.okWide,w]at l;obtain⟨vs,rfl,_,_⟩:=l;refine .agg vs cs (by simpa[Value.cells,oT]using f.1) (λj c i=>?_);have y:j<vs.size:=by have:=f.1;simp[Value.cells,oT]at this;grind
    exact f.2 j _ c (by simp[Value.cells,y]) (by simpa[oT]using i)
   grind
  |_=>cases m
 .have n:s.aV=F:=by grind
  have hv:∀cs,v≠.agg cs:=λcs e=>Y8 n g (e▸l);have i:=zn hv;rw[i]at f;have z:x.cells=[x]:=by
   cases s with
   |struct fs=>cases n
   |bool=>obtain ⟨b,rfl⟩:=a;rfl|int k=>obtain ⟨b,rfl,_⟩:=a;rfl
   |string=>obtain ⟨b,rfl,_⟩:=a;rfl|slice e=>obtain ⟨b,rfl,_⟩:=a;rfl
  rw[z]at f;exact f.2 0 v x rfl rfl
def wA(K:Nat):Z Sh->Z AV->Prop
 |[],[]=>True|s::ss,x::xs=>s.hH K x/\wA K ss xs
 |_,_=>False
def lr{ss:Z Sh}(h:wA K (s::ss) xs):∃x ys,xs=x::ys/\s.hH K x/\wA K ss ys:=by
 cases xs with
 |nil=>exact h.elim|cons x ys=>exact ⟨x,ys,rfl,h.1,h.2⟩
def xY(h:wA K [] xs):xs=[]:=by
 cases xs with
 |nil=>rfl|cons x ys=>exact h.elim
def sr(P:qK):Z Sh->Z JA->tl
 |[],[]=>W|s::ss,t::ts=>s.cE P t&&sr P ss ts
 |_,_=>F
def JD{K:Nat}{Q:DataW H->Prop}(g:xX K Q){F0:zI}{base:Nat}{k:Nat->tl}:∀{ss:Z Sh}{ts:Z JA}{vs:Z Jz}{ds:Z (DataW H)}{ps:Z MemPlace},sr P ss ts=W->(∀(j:Nat) t v,ts[j]?=O t->vs[j]?=O v->Value.okWide P F0 .any base t v)->
  DataW.TrodAll enc P F0 0 k W ts vs ds ps->(∀d∈ds,Q d)->∃xs:Z AV,wA K ss xs/\k8 F0 (World.all F0) vs xs
 |[],[],vs,ds,ps,a,b,h,e=>by obtain⟨rfl,rfl,rfl⟩:=trodAll_nil h;exact⟨[],trivial,rfl,λj v c hv=>by grind⟩|[],_::_,vs,ds,ps,a,b,h,e=>by simp[sr]at a|_::_,[],vs,ds,ps,a,b,h,e=>by simp[sr]at a
 |s::ss,t::ts,vs,ds,ps,a,b,h,e=>by
  obtain⟨v,vs,d,ds,p,q,rfl,rfl,rfl,h1,l⟩:=trodAll_cons h;simp only[sr,aI]at a;obtain⟨x,m,n⟩:=VR g a.1 (b 0 t v rfl rfl) h1 (e _ aE);obtain⟨xs,o,i⟩:=JD g a.2 (λj t v r hv=>b (j+1) t v (by grind) (by simpa using hv)) l (λd u=>e d (by grind));refine⟨x::xs,⟨m,o⟩,by simp[i.1],λj v c hv f=>?_⟩;cases j with
  |zero=>grind|succ j=>exact i.2 j v c (by grind) (by simpa using f)
end
end Go.Ev
namespace Go.Proofs.Mo
open Go Go.Ev
section
def nR:Z Nat:=[0,1,2]
def EL(d:zI):cm where
 h5 w:=∀b∈nR,b<w.heap.size/\w.heap[b]?=d.heap[b]?
 cB _ b:=b∈nR
 jm w w' h e:=⟨λb a=>by grind,λb a=>a⟩
 lt w b h a:=(h b a).1
def Pl{d w:zI}(i:po d)(h:∀b∈nR,w.heap[b]?=d.heap[b]?):po w:=by
 obtain⟨c,j⟩:=i;have k:Tryz.prog.globalNamed "internal/strconv.uint64pow10" =O 0:=au;have l:Tryz.prog.globalNamed "strconv.ErrSyntax" =O 1:=au;have m:Tryz.prog.globalNamed "strconv.ErrRange" =O 2:=au;refine⟨?_,λn e g a=>?_⟩
 .unfold Lib.TabIs World.var? at c⊢;rw[k]at c⊢;simp only[aM]at c⊢;rw[h 0 (by simp[nR])];grind
 .obtain ⟨o,p,f⟩:=j n e g a;have q:g∈nR:=by
   rcases e with rfl|rfl
   .rw[l]at a;cases a;simp[nR]
   .rw[m]at a;cases a;simp[nR]
  refine⟨o,p,?_⟩;unfold World.cell? at f⊢;rw[h g q];exact f
def WS{a:zI}(c:po a):B8 (EL a):=⟨λ_=>rfl,λw h=>Pl c λb d=>(h b d).2⟩
mutual
def calm:AV->tl
 |.fl (.int k _)=>k==.i64|.fl (.bool _)=>W
 |.fl (.string _)=>W|.sl xs=>wB xs
 |.agg xs=>wB xs|_=>F
def wB:Z AV->tl
 |[]=>W|x::r=>calm x&&wB r
end
def su:∀{l:Z AV},wB l=W->∀x∈l,calm x=W
 |y::r,h,x,a=>by
  simp only[wB,aI]at h;rcases cT.1 a with e|e
  grind
  .exact su h.2 x e
def CM:∀{l:Z AV},(∀x∈l,calm x=W)->wB l=W
 |[],_=>rfl|y::r,h=>by simp only[wB,aI];exact⟨h y aE,CM λx a=>h x (by grind)⟩
def LQ{x:AV}(h:calm x=W):∀c∈x.cells,calm c=W:=by
 cases x with
 |agg xs=>intro c a;rw[oT]at a;exact su (by simpa[calm]using h) c a|_=>intro c a;simp only[AV.cells,iC]at a;rw[a];exact h
mutual
def Sh.Dx:Ev.Sh->tl
 |.bool=>W|.int k=>k==.i64
 |.string=>W|.slice e=>Sh.Dx e
 |.struct fs=>zm.Dx fs
def zm.Dx:Ev.zm->tl
 |.nil=>W|.cons s r=>Sh.Dx s&&zm.Dx r
end
mutual
def EQ{K:Nat}:∀{s:Ev.Sh}{x:AV},Sh.Dx s=W->s.hH K x->calm x=W
 |.bool,x,he,h=>by obtain ⟨b,rfl⟩:=h;rfl|.int k,x,he,h=>by obtain ⟨n,rfl,_⟩:=h;exact he
 |.string,x,he,h=>by obtain ⟨l,rfl,_⟩:=h;rfl|.slice e,x,he,h=>by obtain⟨xs,rfl,_,h⟩:=h;show wB xs=W;exact CM λy a=>EQ (s:=e) (by simpa[Sh.Dx]using he) (h y a)
 |.struct fs,x,he,h=>by obtain⟨cs,rfl,h⟩:=h;show wB cs=W;exact CM (Y9 (fs:=fs) (by simpa[Sh.Dx]using he) h)
def Y9{K:Nat}:∀{fs:Ev.zm}{cs:Z AV},zm.Dx fs=W->fs.hH K cs->∀c∈cs,calm c=W
 |.nil,cs,he,h,c,a=>by rw[show cs=[]from h]at a;grind
 |.cons s r,cs,he,h,c,a=>by
  simp only[zm.Dx,aI]at he;obtain⟨x,ds,h1,b,rfl⟩:=h;rcases dR.1 a with a|a
  .exact LQ (EQ he.1 h1) c a
  .exact Y9 he.2 b c a
end
def Za(v:Jz):Prop:=(∃n,v=.int .u64 n)∨∃t u,v=.iface t u
def S7{w:zI}{I:aD}{v:Jz}{x:AV}(h:cq w I v x)(a:calm x=W):¬Za v:=by
 rintro(⟨n,rfl⟩|⟨t,u,rfl⟩)
 .cases h;simp[calm]at a
 .cases h<;>simp[calm]at a
def cq.ag3 {w:zI} {I I':aD} (m:∀(p:Mc)(v:Jz),I p->w.cell? p=O v->¬Za v->I' p) {v:Jz} {x:AV} (h:cq w I v x):calm x=W->cq w I' v x:=by
 induction h with
 |fl v h=>exact λ_=>.fl v h|eU c=>exact λ_=>.eU c
 |sl a n cap sz xs o q r s t e u k g=>intro f;have l:∀(i j:Nat)(x c:AV),xs[i]?=O x->x.cells[j]?=O c->calm c=W:=λi j x c b d=>LQ (su (by simpa[calm]using f) x (bF b)) c (bF d);exact .sl a n cap sz xs o q r s t e (λi j x c b d=>m _ _ (u i j x c b d) (e i j x c b d) (S7 (k i j x c b d) (l i j x c b d))) λi j x c b d=>g i j x c b d (l i j x c b d)|agg vs cs y k g=>
  intro f;exact .agg vs cs y λj c e=>g j c e (su (by simpa[calm]using f) c (bF e))
 |_=>intro f;simp[calm]at f
def S8(a:zI):Prop:=∀(p:Mc)(v:Jz),p.block∈nR->a.cell? p=O v->Za v
def zJ(a:zI):aD:=⟨λp=>p.block<a.heap.size/\p.block∉nR,λ_=>Y⟩
def Pm{a:zI}(hF:S8 a){v:Jz}{x:AV}(h:cq a (World.all a) v x)(b:calm x=W):cq a (zJ a) v x:=cq.ag3 (I:=World.all a) (I':=zJ a) (λp v c hv d=>⟨c,λe=>d (hF p v e hv)⟩) h b
open RowKit
section
variable{H:Type}{enc:JA×Jz->H}{P:qK}
def JE{K:Nat}{Q:DataW H->Prop}(B:xX K Q){JK:JC}{f:Pz}{s:ChangeSpec}{C D E:tl}{a:zI}{base:Nat}{args:Array Jz}{i n:Z (DataW H)}{G:Z MemPlace}{o:JA}{ss:Z Ev.Sh}(J:laidOutB P=W)(l:(f.params.toList.all λt=>P.readableRec t&&decide (t<P.types.size))=W)
  (L:f.resultTypes=#[o]) (N:P.underlying o=O .bool) (hv:s.vars=[]) (R:s.fn H (i++n)={results:=[.lit (.bool W)],args:=i}) (S:sr P ss f.params.toList=W) (T:ss.all Sh.Dx=W)
  (U:∀(j:Nat) t v,f.params[j]?=O t->args[j]?=O v->Value.okWide P a .any base t v) (r:DataW.Whole enc P f.params.toList s.vars F a args.toList i n G)
  (X:∀d∈i,Q d) (a0:(EL a).h5 a) (hF:S8 a) (b0:∀xs,wA K ss xs->nm P (EL a) JK xs (.ret [.v (.fl (.bool W))])):Calls P JK args a λe u=>∃v,e=.returned v/\s.post enc P f F C D E a args v u:=by
 have c0:=r;obtain⟨p,q,d0,_⟩:=c0;obtain⟨xs,b,w⟩:=JD B (ss:=ss) S (λj t v e0 hv=>U j t v (by grind) (by simpa using hv)) d0 X;have f0:∀x∈xs,calm x=W:=by
  have:∀(ss:Z Ev.Sh)(xs:Z AV),ss.all Sh.Dx=W->wA K ss xs->∀x∈xs,calm x=W:=by
   intro ss;induction ss with
   |nil=>intro xs _ h x b;rw[xY h]at b;grind
   |cons s ss g0=>
    intro xs m h x b;obtain⟨y,ys,rfl,h1,h0⟩:=lr h;simp only[qQ,aI]at m;rcases cT.1 b with e|e
    .rw[e];exact EQ m.1 h1
    grind
  exact this ss xs T b
 have i0:k8 a (zJ a) args.toList xs:=⟨w.1,λj v c hv z=>Pm hF (w.2 j v c hv z) (f0 c (bF z))⟩
 refine((b0 xs b).2 a (zJ a) args a0 (λp l=>l) i0).mono λe u h=>?_;obtain⟨v,I,bo,rfl,g,j0,_⟩:=h;have l0:v=.bool W:=cb j0;subst l0;refine⟨_,rfl,Pk J l L N hv R r ⟨g.os,g.tape,g.output,g.size,λk m0=>?_⟩⟩;by_cases A:k∈nR
 .exact (g.h5 k A).2
 .exact g.block k m0 A (cm.eG _ k)
end
end
end Go.Proofs.Mo
