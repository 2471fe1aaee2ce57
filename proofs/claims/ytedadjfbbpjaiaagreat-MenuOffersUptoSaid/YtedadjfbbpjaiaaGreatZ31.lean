import Derived.DataReads
import Derived.DataElems
import Derived.ChangeArms
import Derived.Deep.Slices
import GoSem.ClaimChange
import Derived.Carry
import Derived.ChangeSame
import Derived.OpenShut
import Derived.RowKit
import Derived.ProofKit
import Derived.Test.YtedadjfbbpjaiaaGreatZ30
set_option linter.all false
namespace Go.Ev
open Go
mutual
inductive Sh where
 |bool
 |int (k:IntKind)
 |string
 |slice (e:Sh)
 |struct (fs:FJ)
inductive FJ where
 |nil
 |cons (s:Sh) (r:FJ)
end
mutual
def Sh.size:Sh->Nat
 |.struct fs=>fs.size|_=>1
def FJ.size:FJ->Nat
 |.nil=>0|.cons s r=>s.size+r.size
end
def Sh.aL:Sh->Bool
 |.struct _=>true|_=>false
mutual
def Sh.fits (P:Program):Sh->TypeId->Bool
 |.bool,t=>match P.underlying t with
  |some .bool=>P.cellsOf t==1|_=>false
 |.int k,t=>match P.underlying t with
  |some (.int k')=>k'==k&&P.cellsOf t==1|_=>false
 |.string,t=>match P.underlying t with
  |some .string=>P.cellsOf t==1|_=>false
 |.slice e,t=>match P.underlying t with
  |some (.slice t')=>e.fits P t'&&P.cellsOf t==1|_=>false
 |.struct fs,t=>match P.underlying t with
  |some (.struct ft)=>fs.fits P 0 (ft.toList.map λf=>(f.offset,f.type))&&P.cellsOf t==fs.size|_=>false
def FJ.fits (P:Program):FJ->Nat->List (Nat×TypeId)->Bool
 |.nil,_,[]=>true|.cons s r,k,(o,t)::l=>o==k&&s.fits P t&&r.fits P (k+s.size) l
 |_,_,_=>false
end
mutual
theorem Sh.Hm {P:Program}:∀{s:Sh}{t:TypeId},s.fits P t=true->P.cellsOf t=s.size
 |.bool,t,h=>by unfold Sh.fits at h;split at h<;>simp_all[Sh.size]|.int k,t,h=>by unfold Sh.fits at h;split at h<;>simp_all[Sh.size]
 |.string,t,h=>by unfold Sh.fits at h;split at h<;>simp_all[Sh.size]|.slice e,t,h=>by unfold Sh.fits at h;split at h<;>simp_all[Sh.size]
 |.struct fs,t,h=>by unfold Sh.fits at h;split at h<;>simp_all[Sh.size]
end
mutual
def Sh.jg (K:Nat):Sh->AV->Prop
 |.bool,x=>∃b,x=.fl (.bool b)|.int k,x=>∃n,x=.fl (.int k n)/\k.min<=n/\n<=k.max
 |.string,x=>∃l,x=.fl (bs l)/\l.length<=K|.slice e,x=>∃xs,x=.sl xs/\xs.length<=K/\∀y∈xs,e.jg K y
 |.struct fs,x=>∃cs,x=.agg cs/\fs.jg K cs
def FJ.jg (K:Nat):FJ->List AV->Prop
 |.nil,cs=>cs=[]|.cons s r,cs=>∃x ds,s.jg K x/\r.jg K ds/\cs=x.cells++ds
end
structure Bounds{H:Type}(K:Nat)(Q:DataW H->Prop):Prop where
 str:∀b:List UInt8,Q (.lit (.string b))->b.length<=maxLen->b.length<=K
 len:∀es sp,Q (.slice es sp)->es.length<=maxLen->es.length<=K
 elem:∀es sp d,Q (.slice es sp)->d∈es->Q d
 part:∀ps d,Q (.agg ps)->d∈ps->Q d
mutual
theorem Sh.nh {K:Nat}:∀{s:Sh}{x:AV},s.jg K x->x.cells.length=s.size/\x.wf
 |.bool,x,h=>by obtain ⟨b,rfl⟩:=h;simp[AV.cells,Sh.size,AV.wf,AV.isAgg]|.int k,x,h=>by obtain ⟨n,rfl,_⟩:=h;simp[AV.cells,Sh.size,AV.wf,AV.isAgg]
 |.string,x,h=>by obtain ⟨l,rfl,_⟩:=h;simp[AV.cells,Sh.size,AV.wf,AV.isAgg]|.slice e,x,h=>by obtain ⟨xs,rfl,_⟩:=h;simp[AV.cells,Sh.size,AV.wf,AV.isAgg]
 |.struct fs,x,h=>by obtain⟨cs,rfl,h⟩:=h;obtain⟨h1,h2⟩:=FJ.nh h;exact⟨by simpa[AV.cells,Sh.size]using h1,by simpa[AV.wf,AV.cells]using h2⟩
theorem FJ.nh {K:Nat}:∀{s:FJ}{cs:List AV},s.jg K cs->cs.length=s.size/\∀c∈cs,c.isAgg=false
 |.nil,cs,h=>by simp only[FJ.jg]at h;subst h;simp[FJ.size]|.cons s r,cs,h=>by
  obtain⟨x,ds,h1,h2,rfl⟩:=h;obtain⟨a1,a2⟩:=Sh.nh h1;obtain⟨b1,b2⟩:=FJ.nh h2;refine⟨by simp[FJ.size,a1,b1],λc hc=>?_⟩;rcases dt.1 hc with hc|hc
  ·exact a2 c hc
  ·exact b2 c hc
end
def World.all (w:World):Cells:=⟨λp=>p.block<w.heap.size,λ_=>none⟩
theorem Of{w:World}{base:Nat}{a:Addr}{n:Nat}{cs:List Value}(h:w.cells? base a n=some cs):cs.length=n/\∀(i:Nat)(v:Value),cs[i]?=some v->w.cell? (a.add i)=some v:=by
 unfold World.cells? at h;split at h
 ·refine ⟨by rw[mapM_some_length h];simp,λi v hv=>?_⟩;have hi:i<n:=by have h1:=mapM_some_length h;have h2:=(aV.1 hv).1;simp at h1;omega
  have:=mapM_some_get h i i (by simp[hi]);rw[this,hv]
 ·cases h
theorem FK{w:World}{p:Addr}{v:Value}(h:w.cell? p=some v):p.block<w.heap.size:=by
 unfold World.cell? at h;split at h
 ·rename_i hb;exact (eT.1 hb).1
 ·cases h
section
variable{H:Type}{enc:TypeId×Value->H}{P:Program}{w:World}{base:Nat}{sp:Nat->Bool}{held:Bool}
def wW(w:World)(cs:List Value)(row:List AV):Prop:=cs.length=row.length/\∀(j:Nat)(v:Value)(c:AV),cs[j]?=some v->row[j]?=some c->cj w (World.all w) v c
theorem EU{K:Nat}{Q:DataW H->Prop}{n:Nat}{cs:List Value}(ih:∀(s:Sh)(t:TypeId)(cs:List Value)(x:DataW H×List MemPlace),s.fits P t=true->DataW.trod enc P w base sp held n t cs=some x->Q x.1->∃v:AV,s.jg K v/\wW w cs v.cells):
  ∀(fs:FJ)(k:Nat)(ft:List Field),fs.fits P k (ft.map λf=>(f.offset,f.type))=true->
   (∀f∈ft,∃x,DataW.trod enc P w base sp held n f.type ((cs.drop f.offset).take (P.cellsOf f.type))=some x/\Q x.1)->k+fs.size=cs.length->
   ∃row,fs.jg K row/\wW w (cs.drop k) row
 |.nil,k,ft,hf,hm,hk=>by simp only[FJ.size]at hk;exact⟨[],rfl,by simp[wW,<-hk]⟩|.cons s r,k,[],hf,hm,hk=>by simp[FJ.fits]at hf|.cons s r,k,f::ft,hf,hm,hk=>by
  simp only[eD,FJ.fits,aD,fc]at hf;obtain⟨⟨h1,h2⟩,h3⟩:=hf;obtain⟨x,hx,T1⟩:=hm f (by simp);simp only[FJ.size]at hk;obtain⟨v,hv,hr⟩:=ih s f.type _ x h2 hx T1;obtain⟨row,hg,J5⟩:=EU ih r (k+s.size) ft h3 (λf' Jt=>hm f' (by simp[Jt])) (by omega);have hs:=Sh.Hm h2;have SI:=(Sh.nh hv).1;refine⟨v.cells++row,⟨v,row,hv,hg,rfl⟩,?_,λj u c hu hc=>?_⟩
  ·have:=J5.1;simp at this⊢;omega
  ·by_cases hj:j<v.cells.length
   ·rw[kf hj]at hc;refine hr.2 j u c ?_ hc;rw[fZ,ap (by omega),lA,h1];simpa[lA]using hu
   ·rw[lF (by omega)]at hc;refine J5.2 (j-v.cells.length) u c ?_ hc;rw[lA]at hu⊢;rw[<-hu];congr 1;omega
theorem EV{K:Nat}{Q:DataW H->Prop}(hQ:Bounds K Q):∀(nH:Nat)(s:Sh)(t:TypeId)(cs:List Value)(x:DataW H×List MemPlace),s.fits P t=true->DataW.trod enc P w base sp held nH t cs=some x->Q x.1->∃v:AV,s.jg K v/\wW w cs v.cells
 |0,s,t,cs,x,hf,h,hq=>by simp[DataW.trod]at h|nH+1,s,t,cs,x,hf,h,hq=>by
  have one:∀(u:Value)(c:AV),cj w (World.all w) u c->wW w [u] [c]:=λu c hr=>⟨rfl,λj v d hv hd=>by
   cases j with
   |zero=>simp at hv hd;subst hv hd;exact hr|succ j=>simp at hv⟩
  cases s with
  |bool=>
   unfold Sh.fits at hf;split at hf
   ·rename_i hu;obtain⟨b,rfl,_⟩:=DataW.trod_bool hu h;exact⟨.fl (.bool b),⟨b,rfl⟩,one _ _ (.fl _ rfl)⟩
   ·cases hf
  |int k=>
   unfold Sh.fits at hf;split at hf
   ·rename_i k' hu;simp only[aD,fc]at hf;obtain⟨rfl,_⟩:=hf;obtain⟨n,rfl,_,hw⟩:=DataW.trod_int hu h;simp only[Lit.wf,aD,az]at hw;exact⟨.fl (.int k' n),⟨n,rfl,hw⟩,one _ _ (.fl _ rfl)⟩
   ·cases hf
  |string=>
   unfold Sh.fits at hf;split at hf
   ·rename_i hu;obtain⟨b,rfl,rfl,hl⟩:=DataW.trod_string hu h;exact⟨.fl (.string b),⟨b.data.toList,by rw[AT],hQ.str _ hq (by rw[pN];exact hl)⟩,one _ _ (.fl _ rfl)⟩
   ·cases hf
  |slice e=>
   unfold Sh.fits at hf;split at hf
   ·rename_i t' hu;simp only[aD,fc]at hf;rcases DataW.trod_slice hu h with⟨rfl,_⟩|⟨a,len,cap,ahf,rest,n,hn,rfl,rfl,_,hl,hm,hlen,jk,_,_⟩
    ·exact ⟨.sl [],⟨[],rfl,by simp,by simp⟩,one _ _ (.fJ 0)⟩
    ·obtain rfl:n=nH:=by omega
     have dh:=Sh.Hm hf.1;have key:∀i,i<len->∃(qy:List Value)(v:AV),w.cells? base (a.add (i*P.cellsOf t')) (P.cellsOf t')=some qy/\e.jg K v/\wW w qy v.cells:=λi hi=>by have h1:=jk i hi;rw[cq (by omega)]at h1;obtain⟨qy,h2,h3⟩:=Eu.1 h1;obtain⟨v,h4,h5⟩:=EV hQ n e t' qy _ hf.1 h3 (hQ.elem _ _ _ hq (cK.2 ⟨_,fx _,rfl⟩));exact⟨qy,v,h2,h4,h5⟩
     have hex:∃f:Nat->AV,∀i,i<len->∃qy:List Value,w.cells? base (a.add (i*P.cellsOf t')) (P.cellsOf t')=some qy/\e.jg K (f i)/\wW w qy (f i).cells:=by
      classical
      refine⟨λi=>if h:i<len then Classical.choose (Eb (key i h))else default,λi hi=>?_⟩;simp only[hi,fO];exact⟨_,Eb (Eb (key i hi))⟩
     obtain⟨f,Mj⟩:=hex;have tu:∀(i:Nat)(x:AV),((List.range len).map f)[i]?=some x->i<len/\f i=x:=λi x hx=>by rw[dd,ck]at hx;obtain⟨q,hq,rfl⟩:=hx;obtain⟨h1,h2⟩:=aV.1 hq;simp at h1 h2;exact⟨h1,by rw[<-h2]⟩
     have jm:∀(i j:Nat)(x c:AV),((List.range len).map f)[i]?=some x->x.cells[j]?=some c->∃u,w.cell? (a.add (i*P.cellsOf t'+j))=some u/\cj w (World.all w) u c:=λi j x c hx hc=>by
      obtain⟨hi,rfl⟩:=tu i x hx;obtain⟨qy,h1,h2,h3⟩:=Mj i hi;have hj:j<qy.length:=by rw[h3.1];exact (aV.1 hc).1
      refine⟨qy[j],?_,h3.2 j _ c (by simp[hj]) hc⟩;have:=(Of h1).2 j qy[j] (by simp[hj]);rwa[Addr.add_add]at this
     have ahg:=hQ.len _ _ hq (by simp;omega);refine⟨.sl ((List.range len).map f),⟨_,rfl,by simp at ahg⊢;omega,λy hy=>?_⟩,one _ _ (.sl a len cap (P.cellsOf t') _ (λi j=>(w.cell? (a.add (i*P.cellsOf t'+j))).getD undef) (by simp) (by simpa using hl) hm (λi x hx=>?_) (λi j x c hx hc=>?_) (λi j x c hx hc=>?_) (λi j x c hx hc=>?_))⟩
     ·obtain ⟨i,hi⟩:=List.getElem?_of_mem hy;obtain⟨BV,rfl⟩:=tu i y hi;exact(Mj i BV).choose_spec.2.1
     ·obtain ⟨hi,rfl⟩:=tu i x hx;have:=Sh.nh (Mj i hi).choose_spec.2.1;exact⟨this.1.trans dh.symm,this.2⟩
     ·obtain ⟨u,h1,_⟩:=jm i j x c hx hc;rw[h1];rfl
     ·obtain ⟨u,h1,_⟩:=jm i j x c hx hc;exact FK h1
     ·obtain ⟨u,h1,h2⟩:=jm i j x c hx hc;rw[h1];exact h2
   ·cases hf
  |struct fs=>
   unfold Sh.fits at hf;split at hf
   ·rename_i ft hu;simp only[aD,fc]at hf;obtain⟨xs,n,hn,rfl,jl,iY,Gy⟩:=DataW.trod_struct hu h;obtain rfl:n=nH:=by omega
    obtain⟨row,hg,hr⟩:=EU (n:=n) (cs:=cs) (λs t cs x h1 h2 h3=>EV hQ n s t cs x h1 h2 h3) fs 0 ft.toList hf.1 (λf Jt=>by
     obtain⟨i,hi⟩:=List.getElem?_of_mem Jt;rw[iW]at hi;have eK:i<xs.length:=by rw[iY];exact (eT.1 hi).1
     exact⟨xs[i],by rw[Gy i f hi];simp[eK],hQ.part _ _ hq (cK.2 ⟨_,fx _,rfl⟩)⟩) (by rw[jl,hf.2];omega)
    exact⟨.agg row,⟨row,rfl,hg⟩,by simpa[uv]using hr⟩
   ·cases hf
end
end Go.Ev
namespace Go.Ev
open Go Go.ChangeShapes Go.WideShapes Go.RowKit
variable{K base:Nat}{s:Sh}{f:Func}{handsOn again:Bool}{args:Array Value}{before:List MemPlace}{tb t:TypeId}{r:Reach}{v:Value}{ss:List Sh}{xs:List AV}
section
variable{H:Type}{enc:TypeId×Value->H}{P:Program}
theorem vw(hl:laidOutB P=true){W W':World}(hb:Below W.heap.size W W'){sp:Nat->Bool}:∀{ts:List TypeId}{vs:List Value}{ds:List (DataW H)}{ps:List MemPlace},
  (ts.all λt=>P.readableRec t&&decide (t<P.types.size))=true->DataW.TrodAll enc P W 0 (λ_=>true) true ts vs ds ps->(∀x∈ps,x.block<W.heap.size)->(∀x∈ps,sp x.block=true)->DataW.TrodAll enc P W' 0 sp true ts vs ds ps
 |[],vs,ds,ps,hp,h,eK,hs=>by obtain⟨rfl,rfl,rfl⟩:=trodAll_nil h;exact trodAll_mk0|t::ts,vs,ds,ps,hp,h,eK,hs=>by obtain⟨v,vs,d,ds,p,q,rfl,rfl,rfl,h1,h2⟩:=trodAll_cons h;simp only[vi,aD,az]at hp;exact trodAll_cons_mk (WideElems.Trod_stays hl hp.1.1 hp.1.2 h1 (λx hx=>hb.same (eK x (by simp[hx]))) (λx hx=>hs x (by simp[hx]))) (vw hl hb hp.2 h2 (λx hx=>eK x (by simp[hx])) (λx hx=>hs x (by simp[hx])))
theorem R9{s:ChangeSpec}{fresh:Bool}{W W':World}{ds gs:List (DataW H)}(hl:laidOutB P=true)(hp:(f.params.toList.all λt=>P.readableRec t&&decide (t<P.types.size))=true)
  (hr:f.resultTypes=#[tb]) (htb:P.underlying tb=some .bool) (hv:s.vars=[]) (hs:s.fn H (ds++gs)={results:=[.lit (.bool true)],args:=ds})
  (hW:DataW.Whole enc P f.params.toList s.vars false W args.toList ds gs before) (hb:Below W.heap.size W W'):s.post enc P f false fresh handsOn again W args (.bool true) W':=by
 have hWl:=hW;have eK:∀x∈before,x.block<W.heap.size:=λx hx=>by simpa using hW.lt x hx
 obtain⟨p,q,hA,hV,rfl,hz,hn⟩:=hW;rw[hv]at hV;obtain⟨rfl,rfl⟩:=trodVars_none hV;have dg:∀sp:Nat->Bool,(∀x∈p++[],sp x.block=true)->DataW.TrodAll enc P W' 0 sp true f.params.toList args.toList (s.fn H (ds++[])).args p:=λsp yP=>by rw[hs];exact vw hl hb hp hA (λx hx=>eK x (by simp[hx])) (λx hx=>yP x (by simp[hx]))
 have lu:∀(b:Nat)(sp:Nat->Bool)(hd:Bool),DataW.TrodAll enc P W' b sp hd f.resultTypes.toList ((Value.bool true).resultList f.resultTypes.size) (s.fn H (ds++[])).results []:=λb sp hd=>by rw[hs,hr];exact trodAll_cons_mk (shut_bool htb _) trodAll_mk0
 have aaE:∀sp:Nat->Bool,DataW.TrodVars enc P W' sp s.vars (s.fn H (ds++[])).vars []:=λsp=>by rw[hs,hv];rfl
 have ax:∀(j:Nat)(t:TypeId)(r:Value),f.resultTypes[j]?=some t->((Value.bool true).resultList f.resultTypes.size)[j]?=some r->Value.okWide P W' .any 0 t r:=ok_one hr rfl (okWide_bool_mk htb true);refine⟨ds,[],p++[],[],p,[],hWl,lu _ _ _,dg _ (λx hx=>by simpa using eK x hx),aaE _,World.keptBut_mono (λx hx=>⟨hx,?_⟩) (hb.frame (·∈p++[])),λ_=>?_⟩
 ·exact Or.inr (dt.1 hx)
 ·refine ⟨ax,_,_,([]++p)++[],⟨[]++p,[],trodAll_append (dg _ (λ_ _=>rfl)) (lu _ _ _),aaE _,rfl,?_,?_⟩,?_⟩
  ·intro b off hx;have bV:MemPlace.cell b off∈p++[]:=by simpa using hx
   rw[hb.frozen (p:=⟨b,off,none⟩) (eK _ bV)];exact hz b off bV
  ·intro ha;cases ha
  ·intro x hx _;simpa using hx
theorem acW{W:World}{cs:Array Value}(hs:s.aL=false)(hf:s.fits P t=true)(h:Value.okWide P W r base t (.agg cs)):False:=by
 cases s with
 |bool=>
  unfold Sh.fits at hf;split at hf
  ·rename_i hu;simp[Value.okWide,hu,Cell.okWide,Cell.ok]at h
  ·cases hf
 |int k=>
  unfold Sh.fits at hf;split at hf
  ·rename_i hu;simp[Value.okWide,hu,Cell.okWide,Cell.ok]at h
  ·cases hf
 |string=>
  unfold Sh.fits at hf;split at hf
  ·rename_i hu;simp[Value.okWide,hu,Cell.okWide,Cell.ok]at h
  ·cases hf
 |slice e=>
  unfold Sh.fits at hf;split at hf
  ·rename_i hu;simp[Value.okWide,hu,Cell.okWide,Cell.ok]at h
  ·cases hf
 |struct fs=>cases hs
theorem B9(h:∀cs,v≠.agg cs):v.cells=#[v]:=by cases v<;>first|rfl|exact (h _ rfl).elim
theorem Zo{Q:DataW H->Prop}(hQ:Bounds K Q){W:World}{d:DataW H}{ps:List MemPlace}{sp:Nat->Bool}(hf:s.fits P t=true)(ax:Value.okWide P W r base t v)(h:DataW.Trod enc P W 0 sp true t v d ps)(hq:Q d):∃x:AV,s.jg K x/\cj W (World.all W) v x:=by
 obtain⟨nH,h⟩:=h;obtain⟨x,hx,hr⟩:=EV hQ nH s t _ _ hf h hq;refine⟨x,hx,?_⟩;by_cases hs:s.aL=true
 ·cases s with
  |struct fs=>
   obtain⟨cs,rfl,_⟩:=hx;unfold Sh.fits at hf;split at hf
   ·rename_i ft hu;simp only[Value.okWide,hu]at ax;obtain⟨vs,rfl,_,_⟩:=ax;refine .agg vs cs (by simpa[Value.cells,uv]using hr.1) (λj c hc=>?_);have hj:j<vs.size:=by have:=hr.1;simp[Value.cells,uv]at this;have:=(aV.1 hc).1;omega
    exact hr.2 j _ c (by simp[Value.cells,hj]) (by simpa[uv]using hc)
   ·cases hf
  |_=>cases hs
 ·have iX:s.aL=false:=by simpa using hs
  have hv:∀cs,v≠.agg cs:=λcs e=>acW iX hf (e▸ax);have hc:=B9 hv;rw[hc]at hr;have hxa:x.cells=[x]:=by
   cases s with
   |struct fs=>cases iX
   |bool=>obtain ⟨b,rfl⟩:=hx;rfl|int k=>obtain ⟨b,rfl,_⟩:=hx;rfl
   |string=>obtain ⟨b,rfl,_⟩:=hx;rfl|slice e=>obtain ⟨b,rfl,_⟩:=hx;rfl
  rw[hxa]at hr;exact hr.2 0 v x rfl rfl
def EW(K:Nat):List Sh->List AV->Prop
 |[],[]=>True|s::ss,x::xs=>s.jg K x/\EW K ss xs
 |_,_=>False
theorem gX(h:EW K (s::ss) xs):∃x ys,xs=x::ys/\s.jg K x/\EW K ss ys:=by
 cases xs with
 |nil=>exact h.elim|cons x ys=>exact ⟨x,ys,rfl,h.1,h.2⟩
theorem Hn(h:EW K [] xs):xs=[]:=by
 cases xs with
 |nil=>rfl|cons x ys=>exact h.elim
def uO(P:Program):List Sh->List TypeId->Bool
 |[],[]=>true|s::ss,t::ts=>s.fits P t&&uO P ss ts
 |_,_=>false
theorem LW{K:Nat}{Q:DataW H->Prop}(hQ:Bounds K Q){W:World}{base:Nat}{sp:Nat->Bool}:∀{ss:List Sh}{ts:List TypeId}{vs:List Value}{ds:List (DataW H)}{ps:List MemPlace},uO P ss ts=true->(∀(j:Nat) t v,ts[j]?=some t->vs[j]?=some v->Value.okWide P W .any base t v)->
  DataW.TrodAll enc P W 0 sp true ts vs ds ps->(∀d∈ds,Q d)->∃xs:List AV,EW K ss xs/\mm W (World.all W) vs xs
 |[],[],vs,ds,ps,hf,ax,h,hq=>by obtain⟨rfl,rfl,rfl⟩:=trodAll_nil h;exact⟨[],trivial,rfl,λj v c hv=>by simp at hv⟩|[],_::_,vs,ds,ps,hf,ax,h,hq=>by simp[uO]at hf|_::_,[],vs,ds,ps,hf,ax,h,hq=>by simp[uO]at hf
 |s::ss,t::ts,vs,ds,ps,hf,ax,h,hq=>by
  obtain⟨v,vs,d,ds,p,q,rfl,rfl,rfl,h1,h2⟩:=trodAll_cons h;simp only[uO,aD]at hf;obtain⟨x,hx,hr⟩:=Zo hQ hf.1 (ax 0 t v rfl rfl) h1 (hq _ (by simp));obtain⟨xs,iY,rP⟩:=LW hQ hf.2 (λj t v ht hv=>ax (j+1) t v (by simpa using ht) (by simpa using hv)) h2 (λd hd=>hq d (by simp[hd]));refine⟨x::xs,⟨hx,iY⟩,by simp[rP.1],λj v c hv hc=>?_⟩;cases j with
  |zero=>simp at hv hc;subst hv hc;exact hr|succ j=>exact rP.2 j v c (by simpa using hv) (by simpa using hc)
theorem Sa{Q:DataW H->Prop}(hQ:Bounds K Q){L3:FuncId}{s:ChangeSpec}{fresh:Bool}{W:World}{ds gs:List (DataW H)}(hl:laidOutB P=true)(hp:(f.params.toList.all λt=>P.readableRec t&&decide (t<P.types.size))=true)
  (hr:f.resultTypes=#[tb]) (htb:P.underlying tb=some .bool) (hv:s.vars=[]) (hs:s.fn H (ds++gs)={results:=[.lit (.bool true)],args:=ds}) (hf:uO P ss f.params.toList=true)
  (ax:∀(j:Nat) t v,f.params[j]?=some t->args[j]?=some v->Value.okWide P W .any base t v) (hW:DataW.Whole enc P f.params.toList s.vars false W args.toList ds gs before)
  (hq:∀d∈ds,Q d) (hd:∀xs,EW K ss xs->oI P Env.none_ L3 xs (.ret [.v (.fl (.bool true))])):Calls P L3 args W λe W'=>∃v,e=.returned v/\s.post enc P f false fresh handsOn again W args v W':=by
 have hW':=hW;obtain⟨p,q,hA,_⟩:=hW';obtain⟨xs,hx,dH⟩:=LW hQ (ss:=ss) hf (λj t v ht hv=>ax j t v (by simpa using ht) (by simpa using hv)) hA hq;refine((hd xs hx).2 W (World.all W) args trivial (λp hp=>⟨hp,λh=>h⟩) dH).mono λe W' h=>?_;obtain⟨v,I,bo,rfl,EX,lu,_⟩:=h;have MH:v=.bool true:=bR lu;subst MH;exact⟨_,rfl,R9 hl hp hr htb hv hs hW ⟨EX.os,EX.tape,EX.output,EX.size,λk hk=>EX.block k hk (λh=>h) (Env.ep _ k)⟩⟩
end
end Go.Ev
