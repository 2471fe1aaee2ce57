import Derived.Test.YtedadjfbbpjaiaaGreatZ5
set_option linter.all false
namespace Go.X
open Go Go.Ev
variable{t te b:Ty}{e el:TypeId}{k d i tick hv off f tk t0:Nat}{g:Nat->Nat}{u:br}{β:Type}{q' q'':St}{A:Nat->Option Ob}{V m:Nat->Bool}{y:Operand}{qs:List br}{av:AV}{a:AK}{C:Nat->Type}{op:BinOp}{be:Nat->Option Nat}{c:Nat->Nat->Option AV}{p:Option Nat}{Xp:AV->St->Prop}{K':St->Prop}
section
variable(P:Program)(E:Env){U:cm}(T:da U.C)
structure kL(X:Ctx U)(e:TypeId)(t:Ty):Prop where
 ok:fg t=true
 cells:P.cellsOf e=bj U D t
 pos:0<P.cellsOf e
 few:P.cellsOf e<=256
 aem:P.concrete e=true
 agg:nS P e=some (aL t)
 bytes:X.bytes e=P.bytesOf e
 int:∀k,t=.int k->P.underlying e=some (.int k)
 bool:t=.bool->P.underlying e=some .bool
 str:t=.str->P.underlying e=some .string
 list:∀t',t=.list t'->∃el,P.underlying e=some (.slice el)/\X.ty el=some t'
 elem:∀t' el,t=.list t'->X.elem e=some el->P.underlying e=some (.slice el)/\X.ty el=some t'
 ref:∀t',t=.ref t'->∃el,P.underlying e=some (.pointer el)
 ptr:∀k,t=.ptr k->∃el,P.underlying e=some (.pointer el)
 mp:∀k,t=.mp k->∃a b,P.underlying e=some (.map a b)/\∃ta tb,U.ak k=.map ta tb/\X.ty a=some ta/\X.ty b=some tb/\Xf U tb=true
 field:X.mq e=none->∀n,t=.struct n->∀f off ft,fieldAt U t f=some (off,ft)->∃fe,lJ P e f=some (off,fe)/\fg ft=true/\P.cellsOf fe=bj U D ft/\nS P fe=some (aL ft)/\0<P.cellsOf fe
 TG:∀n,t=.struct n->∃pl,placesOf P e=some pl/\∀f off ft,qN U 0 (U.fields n) f=some (off,ft)->pl[f]?=some (off,bj U D ft)
 xV:∀n,t=.struct n->∀pl,placesOf P e=some pl->(pl.all λp=>decide (p.1+p.2<=bj U D t))=true
 zero:∃i zv,P.info? e=some i/\i.zero=some zv/\(zv.cells.all λv=>v.oneCell')=true/\zv.cells.size=i.size/\(aL t=true->∃cs,zv=.agg cs)/\∀rs,pk U D t=some rs->zv.cells.size=rs.length/\∀(i:Nat)(r:R U.C)(v:Value),rs[i]?=some r->zv.cells[i]?=some v->
  (∀bx g tick,bn P E T bx g tick r (cf v))∨(v=.slice none 0 0/\∀bx g tick,bn P E T bx g tick r (.val .emp))
 zv1:aL t=false->∀i zv,P.info? e=some i->i.zero=some zv->zv.cells=#[zv]/\kG zv=dq zv
 kinds:X.mq e=none->∀n,t=.struct n->∀b x y,rL ZM (U.fields n) x y=some b->∃ks,uw P e=some ks/\fP ks (lx T (U.fields n) x) (lx T (U.fields n) y)=some b
def fA:(ps:List Ty)->HL U.C ps->List AV->Prop
 |[],_,aX=>aX=[]|t::ts,x,aX=>∃a r,aX=a::r/\mT P E T t (xP t ts x) a/\fA ts (wZ t ts x) r
def cB:(rs:List RK)->HL U.C (rs.map RK.ty)->List RV
 |[],_=>[]|.v t::rs,y=>.v (enc T t (xP t (rs.map RK.ty) y))::cB rs (wZ t (rs.map RK.ty) y)
 |.own t e::rs,y=>.own e (List.map (enc T t) (xP (.list t) (rs.map RK.ty) y))::cB rs (wZ (.list t) (rs.map RK.ty) y)
def qU(rs:List RK):(p:Option (TypeId×Ty))->iG U p (HL U.C (rs.map RK.ty))->Out
 |none,y=>.ret (cB T rs y)|some (tid,t),r=>match(r:Except (den U.C t) (HL U.C (rs.map RK.ty)))with
  |.ok y=>.ret (cB T rs y)|.error e=>.cG (.mI tid (enc T t e))
def Q8(X:Ctx U):RK->Prop
 |.v t=>fg t=true|.own t e=>X.ty e=some t
def pn(f:FuncId)(ps:List Ty)(rs:List RK)(cG:Option (TypeId×Ty)):Run U ps rs cG->Prop
 |.pure run=>∀x aX r,fA P E T ps x aX->run x=some r->oI P E f aX (qU T rs cG r)|.rd run=>∀x h aX r A V,fA P E T ps x aX->fa T full h A V->run x h=some r->∃A' V',fa T full h A' V'/\nE P E f aX A V (qU T rs cG r) A' V'
 |.st run=>∀x h aX r h' A V,fA P E T ps x aX->fa T full h A V->run x h=some (r,h')->∃A' V',fa T full h' A' V'/\nE P E f aX A V (qU T rs cG r) A' V'
structure kZ(X:Ctx U)(f:FuncId)(c:ca U):Prop where
 rs:∀r∈c.rs,Q8 X r
 cG:∀tid t,c.cG=some (tid,t)->fg t=true
 tG:pn P E T f c.ps c.rs c.cG c.run
structure bG(X:Ctx U):Prop where
 ro:X.wr=true->∀i,E.ro i=none
 roK:∀k i,k<U.nk->(∀a b,U.ak k≠.map a b)->E.ro (dk k i)=none
 ty:∀e t,X.ty e=some t->kL P E T X e t
 mA:∀f,∀c∈X.mA f,kZ P E T X f c
 obj:∀k t,U.ak k=.obj t->fg t=true
 map:∀k a b,U.ak k=.map a b->zA a=true/\fg b=true
 M3:∀e,X.M3 e=true->∃el,P.underlying e=some (.slice el)/\nV P el=true/\P.cellsOf el=1
 Tr:∀e,X.Tr e=true->P.cellsOf e=1/\nS P e=some false
 mq:∀e el,X.mq e=some el->∃N,P.underlying e=some (.array N el)/\P.cellsOf el=1/\nS P el=some false/\∀n,X.ty e=some (.struct n)->(U.fields n).length=N/\bj U D (.struct n)=N/\((U.fields n).all λt=>!aL t)=true
end
section
variable{β:Type}
theorem lV:∀(n:Nat)(l:List β),qO n l=l.drop n
 |0,l=>rfl|n+1,[]=>rfl
 |n+1,x::l=>by simp only[qO,List.drop_succ_cons,lV n l]
theorem qV(k:Nat)(vs rs:List β):vR k vs rs=aR rs k vs:=by simp only[vR,aR,lV,Kl]
end
section
variable{P:Program}{E:Env}{U:cm}{T:da U.C}{X:Ctx U}{bx:List (Nat×Nat×B U.C)}{g:Nat->Nat}{tick:Nat}
def dL(P:Program)(E:Env)(T:da U.C)(bx:List (Nat×Nat×B U.C))(g:Nat->Nat)(tick:Nat)(rs:List (R U.C))(qs:List br):Prop:=rs.length=qs.length/\∀(i:Nat)(r:R U.C)(q:br),rs[i]?=some r->qs[i]?=some q->bn P E T bx g tick r q
theorem dL.nil:dL P E T bx g tick [] []:=⟨rfl,λi r q h=>by simp at h⟩
theorem dL.cons {r:R U.C} {q:br} {rs:List (R U.C)} {qs:List br} (h:bn P E T bx g tick r q) (h2:dL P E T bx g tick rs qs):dL P E T bx g tick (r::rs) (q::qs):=by
 refine⟨by simp[h2.1],λi r' q' hr hq=>?_⟩;cases i with
 |zero=>simp at hr hq;subst hr hq;exact h|succ i=>exact h2.2 i r' q' (by simpa using hr) (by simpa using hq)
theorem dL.Im {r:R U.C} {rs:List (R U.C)} (h:dL P E T bx g tick (r::rs) qs):∃q ps,qs=q::ps/\bn P E T bx g tick r q/\dL P E T bx g tick rs ps:=by
 cases qs with
 |nil=>simp[dL]at h|cons q ps=>exact ⟨q,ps,rfl,h.2 0 r q rfl rfl,by simpa using h.1,λi r' q' hr hq=>h.2 (i+1) r' q' (by simpa using hr) (by simpa using hq)⟩
theorem dL.append {rs yR:List (R U.C)} {Wz:List br} (h:dL P E T bx g tick rs qs) (h':dL P E T bx g tick yR Wz):dL P E T bx g tick (rs++yR) (qs++Wz):=by
 refine⟨by simp[h.1,h'.1],λi r q hr hq=>?_⟩;by_cases hi:i<rs.length
 ·rw[kf hi]at hr;rw[kf (by rw[<-h.1];exact hi)]at hq;exact h.2 i r q hr hq
 ·rw[lF (by omega)]at hr;rw[lF (by rw[<-h.1];omega),<-h.1]at hq;exact h'.2 _ r q hr hq
theorem dL.drop {rs:List (R U.C)} (h:dL P E T bx g tick rs qs) (k:Nat):dL P E T bx g tick (rs.drop k) (qs.drop k):=by refine⟨by simp[h.1],λi r q hr hq=>?_⟩;rw[lA]at hr hq;exact h.2 _ r q hr hq
theorem dL.take {rs:List (R U.C)} (h:dL P E T bx g tick rs qs) (k:Nat):dL P E T bx g tick (rs.take k) (qs.take k):=by
 refine⟨by simp[h.1],λi r q hr hq=>?_⟩;rw[fZ]at hr hq;split at hr
 ·rename_i hi;rw[ap hi]at hq;exact h.2 _ r q hr hq
 ·cases hr
theorem gH{x:den U.C t}(h:fg t=true):mT P E T t x (enc T t x):=by cases t<;>first|exact ⟨h,rfl⟩|(simp[fg]at h)
theorem gm{x:den U.C t}(h:mT P E T t x av)(ho:fg t=true):av=enc T t x:=by cases t<;>first|exact h.2|(simp[fg]at ho)
theorem aY{x:den U.C t}(h:fg t=true):bn P E T bx g tick (.val t x) (.val (enc T t x)):=.val t x _ _ rfl (gH h)
theorem Ng{v:Value}{x:den U.C t}(h:gV t v=some x):bh (cf v)=some (enc T t x):=by
 cases t with
 |int k=>
  cases v<;>simp only[gV,reduceCtorEq]at h;split at h
  ·rename_i e;subst e;simp only[ah]at h;subst h;rfl
  ·cases h
 |bool=>cases v<;>simp only[gV,reduceCtorEq,ah]at h;subst h;rfl
 |str=>cases v<;>simp only[gV,reduceCtorEq,ah]at h;subst h;simp only[cf,bh,enc,AT]
 |list t=>
  cases v<;>simp only[gV,reduceCtorEq]at h;rename_i a n c;cases a with
  |some a=>simp[gV]at h|none=>
   cases n with
   |succ n=>simp[gV]at h|zero=>cases c with
    |succ c=>simp[gV]at h|zero=>simp only[gV,ah]at h;subst h;rfl
 |ref t=>
  cases v<;>simp only[gV,reduceCtorEq]at h;rename_i a;cases a with
  |some a=>simp[gV]at h|none=>simp only[gV,ah]at h;subst h;rfl
 |ptr k=>
  cases v<;>simp only[gV,reduceCtorEq]at h;rename_i a;cases a with
  |some a=>simp[gV]at h|none=>simp only[gV,ah]at h;subst h;rfl
 |mp k=>
  cases v<;>simp only[gV,reduceCtorEq]at h;rename_i a;cases a with
  |some a=>simp[gV]at h|none=>simp only[gV,ah]at h;subst h;rfl
 |_=>cases v<;>simp[gV]at h
theorem DA{r:R U.C}{x:den U.C t}(h:bn P E T bx g tick r (.val av))(hv:H3 t r=some x):∃u,t=.cell u/\fg u=true/\av=enc T t x:=by
 unfold H3 at hv;split at hv
 ·rename_i t' y;obtain⟨e,rfl⟩:=bH hv;subst e;generalize hq:br.val av=q at h;cases h with
  |dn t x k ho=>simp only[br.val.injEq]at hq;subst hq;exact⟨t',rfl,ho,by simp[enc]⟩
 ·cases hv
theorem DB:∀{us:Ty}{caps:List (R U.C)}{aX:List AV}{x:den U.C us},caps.length=aX.length->(∀(i:Nat)(r:R U.C)(av:AV),caps[i]?=some r->aX[i]?=some av->bn P E T bx g tick r (.val av))->tx us caps=some x->aX=OU us (enc T us x)
 |.pair t u,[],aX,x,hl,h,hx=>by simp[tx]at hx|.pair t u,r::l,[],x,hl,h,hx=>by simp at hl
 |.pair t u,r::l,a::aX,x,hl,h,hx=>by
  simp only[tx]at hx;split at hx
  ·rename_i y z hy hz;simp only[ah]at hx;subst hx;obtain⟨u',_,_,h1⟩:=DA (h 0 r a rfl rfl) hy;have h2:=DB (us:=u) (by simpa using hl) (λi r av hr ha=>h (i+1) r av (by simpa using hr) (by simpa using ha)) hz;simp only[enc,OU];rw[h1,h2]
  ·cases hx
 |.int k,caps,aX,x,hl,h,hx|.bool,caps,aX,x,hl,h,hx|.str,caps,aX,x,hl,h,hx|.unit,caps,aX,x,hl,h,hx|.list _,caps,aX,x,hl,h,hx|.struct _,caps,aX,x,hl,h,hx|.ref _,caps,aX,x,hl,h,hx
 |.cell _,caps,aX,x,hl,h,hx|.fn _ _,caps,aX,x,hl,h,hx|.rJ _ _,caps,aX,x,hl,h,hx|.ptr _,caps,aX,x,hl,h,hx|.hs _,caps,aX,x,hl,h,hx|.mp _,caps,aX,x,hl,h,hx|.mz _ _,caps,aX,x,hl,h,hx|.zq _ _,caps,aX,x,hl,h,hx|.J9 _ _,caps,aX,x,hl,h,hx=>by
  match caps,aX,hl with
  |[],_,_=>simp[tx]at hx|[r],[a],_=>simp only[tx]at hx;obtain⟨u',hu,_,h1⟩:=DA (h 0 r a rfl rfl) hx;subst h1;first|(cases hu;rfl)|cases hu
  |_::_::_,_,_=>simp[tx]at hx
theorem po{r:R U.C}{q:br}{v:den U.C t}(h:bn P E T bx g tick r q)(hv:fV t r=some v):∃av,bh q=some av/\mT P E T t v av:=by
 unfold fV at hv;split at hv
 ·rename_i t' x;obtain⟨e,rfl⟩:=bH hv;subst e;cases h with
  |val t x q av hq h=>exact ⟨av,hq,h⟩
 ·rename_i u;cases ho:fg t with
  |false=>rw[ho]at hv;cases hv
  |true=>
   rw[ho]at hv;simp only[ba]at hv;cases h with
   |const v' hc=>exact ⟨_,Ng hv,gH ho⟩
 ·rename_i t' xs;obtain⟨e,rfl⟩:=bH hv;subst e;cases h with
  |full t xs h=>exact ⟨_,rfl,gH (t:=.list t') (x:=xs) h⟩
 ·rename_i t' x;split at hv
  ·rename_i v' MH;simp only[ah]at hv;subst hv;obtain⟨e,rfl⟩:=bH MH;subst e;cases h with
   |dn t x k h=>exact ⟨_,rfl,h,by simp[enc]⟩
  ·obtain ⟨e,rfl⟩:=bH hv;subst e;cases h with
   |dn t x k h=>exact ⟨_,rfl,h,by simp[enc,Ig]⟩
 ·rename_i a b φ;obtain⟨e,rfl⟩:=bH hv;subst e;cases h with
  |sC r av hr=>
   generalize hq:br.val av=q' at hr;cases hr with
   |val t x q TH zF MH=>subst hq;simp only[bh,ah]at zF;subst zF;obtain⟨f,caps,rfl,h2⟩:=MH;exact⟨_,rfl,f,caps,rfl,h2⟩
 ·rename_i k i off;obtain⟨e,rfl⟩:=bH hv;subst e;cases h with
  |jZ k i off=>exact ⟨_,rfl,rfl,rfl⟩
 ·rename_i f caps;split at hv
  ·rename_i f' us;cases hb:(Nat.beq f f'&&okC us)with
   |false=>rw[hb]at hv;cases hv
   |true=>
    rw[hb]at hv;simp only[aD]at hb;obtain rfl:=bM hb.1;cases h with
    |fn f caps aX hl h2=>exact ⟨_,rfl,hb.2,by rw[DB hl h2 hv];rfl⟩
  ·cases hv
 ·cases hv
theorem cX{r:R U.C}{q:br}{v:den U.C t}(h:bn P E T bx g tick r q)(hv:fV t r=some v)(ho:fg t=true):bh q=some (enc T t v):=by obtain⟨av,h1,h2⟩:=po h hv;rw[h1,gm h2 ho]
theorem Gn{r:R U.C}{q:br}{v:den U.C t}(h:bn P E T bx g tick r q)(hv:fV t r=some v):bn P E T bx g tick (.val t v) q:=by obtain⟨av,h1,h2⟩:=po h hv;exact .val t v q av h1 h2
theorem dp{q:br}{v:Value}(h:bh q=some (.fl v)):q=.val (.fl v):=by cases q<;>simp[bh]at h;rw[h]
theorem uB{q:br}{cs:List AV}(h:bh q=some (.agg cs)):q=.val (.agg cs):=by cases q<;>simp[bh]at h;rw[h]
theorem Q9{q:br}{cs:List AV}(h:bh q=some (.ref cs)):q=.val (.ref cs):=by cases q<;>simp[bh]at h;rw[h]
theorem DC{q:br}{f:FuncId}{cs:List AV}(h:bh q=some (.fn f cs)):q=.val (.fn f cs):=by cases q<;>simp[bh]at h;rw[h]
theorem qW{q:br}{cs:List AV}(h:bh q=some (.sl cs)):q=.val (.sl cs)∨q=.full cs:=by
 cases q<;>simp[bh]at h
 ·rw[h];exact .inl rfl
 ·rw[h];exact .inr rfl
theorem mU{r:R U.C}{q:br}{b:Bool}(h:bn P E T bx g tick r q)(hb:AY r=some b):q=.val (.fl (.bool b)):=by
 unfold AY at hb;split at hb
 ·simp only[ah]at hb;subst hb;cases h with
  |val t x q av hq h=>rw[gm h rfl]at hq;exact dp hq
 ·simp only[ah]at hb;subst hb;cases h with
  |const v hc=>rfl
 ·cases hb
theorem lW{r:R U.C}{q:br}{m:Int}(h:bn P E T bx g tick r q)(hm:Ft r=some m):∃k,q=.val (.fl (.int k m)):=by
 unfold Ft at hm;split at hm
 ·rename_i k x;simp only[ah]at hm;subst hm;cases h with
  |val t x q av hq h=>rw[gm h rfl]at hq;exact ⟨k,dp hq⟩
 ·simp only[ah]at hm;subst hm;cases h with
  |const v hc=>exact ⟨_,rfl⟩
 ·cases hm
variable(L:Lawful U T)
include L in
theorem iQ:∀(k:Nat)(t:Ty)(x:den U.C t),eW U k t=true->fg t=true->dL P E T bx g tick (oz U k t x) ((enc T t x).cells.map .val)
 |k,t,x,hd,ho=>by
  by_cases hs:aL t=true
  ·cases t with
   |struct n=>
    cases k with
    |zero=>simp[eW]at hd|succ k=>
     simp only[eW,cJ]at hd;have key:∀(ts:List Ty)(y:HL U.C ts),(∀t∈ts,eW U k t=true/\fg t=true)->dL P E T bx g tick (ux (oz U k) ts y) ((lx T ts y).map .val):=by
      intro ts;induction ts with
      |nil=>intro y _;exact .nil|cons t ts ih=>intro y h;simp only[ux,lx,nN];exact(iQ k t _ (h t (by simp)).1 (h t (by simp)).2).append (ih _ λt ht=>h t (by simp[ht]))
     have:=key _ (U.un n x) λt ht=>⟨hd t ht,cJ.1 (L.ok n) t ht⟩
     simp only[oz,enc,AV.cells];rw[L.cells];exact this
   |_=>simp[aL]at hs
  ·have hs:aL t=false:=by simpa using hs
   have h1:=jN (T:=T) (x:=x) hs;have h2:oz U k t x=[.val t x]:=by cases t<;>first|(simp[aL]at hs;done)|(cases k<;>rfl)
   rw[h1,h2];exact .cons (aY ho) .nil
theorem vh:∀{a b:List br}{xs ys:List AV},cR a=some xs->cR b=some ys->cR (a++b)=some (xs++ys)
 |[],b,xs,ys,h1,h2=>by simp[cR]at h1;subst h1;simpa using h2|r::a,b,xs,ys,h1,h2=>by
  simp only[cR]at h1;cases h3:bh r with
  |none=>simp[h3]at h1|some x=>
   cases h4:cR a with
   |none=>simp[h3,h4]at h1|some zs=>simp only[h3,h4,ah]at h1;subst h1;simp[cR,h3,vh h4 h2]
theorem take_add(l:List β)(m n:Nat):l.take (m+n)=l.take m++(l.drop m).take n:=by rw[List.take_add]
include L in
theorem iA:∀(k:Nat)(t:Ty)(rs:List (R U.C))(qs:List br)(x:den U.C t)(rest:List (R U.C)),eW U k t=true->fg t=true->dL P E T bx g tick rs qs->lS U k t rs=some (x,rest)->
  rest=rs.drop (bj U k t)/\bj U k t<=rs.length/\cR (qs.take (bj U k t))=some (enc T t x).cells
 |k,t,rs,qs,x,rest,hd,ho,hr,hu=>by
  by_cases hs:aL t=true
  ·cases t with
   |struct n=>
    cases k with
    |zero=>simp[eW]at hd|succ k=>
     simp only[eW,cJ]at hd;have key:∀(ts:List Ty)(rs:List (R U.C))(qs:List br)(y:HL U.C ts)(rest:List (R U.C)),(∀t∈ts,eW U k t=true/\fg t=true)->dL P E T bx g tick rs qs->nK (lS U k) ts rs=some (y,rest)->
       rest=rs.drop (iF (bj U k) ts)/\iF (bj U k) ts<=rs.length/\cR (qs.take (iF (bj U k) ts))=some (lx T ts y):=by
      intro ts;induction ts with
      |nil=>intro rs qs y rest _ _ h;simp only[nK,ah,aS]at h;obtain⟨_,rfl⟩:=h;simp[iF,cR,lx]|cons t ts ih=>
       intro rs qs y rest ha hr h;simp only[nK]at h;split at h
       ·rename_i z l' hz;split at h
        ·rename_i zs l'' Fg;simp only[ah,aS]at h;obtain⟨rfl,rfl⟩:=h;obtain⟨h1,h2,h3⟩:=iA k t rs qs z l' (ha t (by simp)).1 (ha t (by simp)).2 hr hz;subst h1;obtain⟨h4,h5,h6⟩:=ih _ (qs.drop (bj U k t)) zs l'' (λt ht=>ha t (by simp[ht])) (hr.drop _) Fg;refine⟨by rw[h4,Kl];rfl,by simp only[iF];rw[xi]at h5;omega,?_⟩;simp only[iF,lx,eM,eO,take_add];exact vh h3 h6
        ·cases h
       ·cases h
     simp only[lS]at hu;split at hu
     ·rename_i y l' hy;simp only[ah,aS]at hu;obtain⟨rfl,rfl⟩:=hu;have:=key _ rs qs y l' (λt ht=>⟨hd t ht,cJ.1 (L.ok n) t ht⟩) hr hy;simp only[bj,enc,AV.cells];rw[L.cells,L.Ih];exact this
     ·cases hu
   |_=>simp[aL]at hs
  ·have hs:aL t=false:=by simpa using hs
   have h1:=jN (T:=T) (x:=x) hs;have h2:bj U k t=1:=by cases t<;>first|(simp[aL]at hs;done)|(cases k<;>rfl)
   have h3:∃r l,rs=r::l/\fV t r=some x/\rest=l:=by
    cases rs with
    |nil=>cases t<;>first|(simp[aL]at hs;done)|(cases k<;>simp[lS]at hu)
    |cons r l=>
     refine⟨r,l,rfl,?_⟩;have:(match fV t r with|some x=>some (x,l)|none=>none)=some (x,rest):=by cases t<;>first|(simp[aL]at hs;done)|(cases k<;>exact hu)
     split at this
     ·rename_i y hy;simp only[ah,aS]at this;obtain⟨rfl,rfl⟩:=this;exact⟨hy,rfl⟩
     ·cases this
   obtain⟨r,l,rfl,h4,rfl⟩:=h3;obtain⟨q,ps,rfl,h5,h6⟩:=hr.Im;rw[h2,h1];refine⟨rfl,by simp,?_⟩;have:=cX h5 h4 ho;simp[cR,this]
end
section
variable{P:Program}{E:Env}{U:cm}{T:da U.C}{X:Ctx U}{s:S U.C}{q:St}{α:Type}{out:α}
theorem wc:∀l:List AV,cR (l.map .val)=some l
 |[]=>rfl|x::l=>by simp[cR,bh,wc l]
theorem aN.cells (hS:aN P E T X s q) {u:Ty} {rs:List (R U.C)} (hb:s.box d=some (.cells u rs)):fg u=true/\bj U D u=rs.length/\∃cs,q.b d=some (.cells cs)/\dL P E T s.b q.g s.tick rs cs:=by have h:=hS.boxes d;rw[c7 hb]at h;obtain⟨h1,h2,cs,h3,h4,h5⟩:=h;exact⟨h1,h2,cs,h3,h4,h5⟩
theorem aN.aT (hS:aN P E T X s q) {xs:List (den U.C t)} (hb:s.box d=some (.aT t e xs)):X.ty e=some t/\q.b d=some (.aT e (xs.map (enc T t))):=by have h:=hS.boxes d;rw[c7 hb]at h;exact h
theorem nt(hS:aN P E T X s q){v:br}(h:bn P E T s.b q.g s.tick (.loc d k) v){u:Ty}{rs:List (R U.C)}(hb:s.box d=some (.cells u rs)):v=.loc d (q.g d) 0 0 k:=by
 cases h with
 |loc d k q h=>exact h _ _ _ (c7 hb)
theorem fh(hS:aN P E T X s q){v:br}(h:bn P E T s.b q.g s.tick (.whole d) v){xs:List (den U.C t)}(hb:s.box d=some (.aT t e xs)):v=.view d (q.g d) 0 xs.length:=by
 cases h with
 |whole d q h=>exact h _ _ _ _ (c7 hb)
theorem jQ(x:den U.C t)(h:aL t=true):AV.agg (enc T t x).cells=enc T t x:=by cases t<;>first|rfl|(simp[aL]at h)
variable(L:Lawful U T)
include L in
theorem A7(n4:P.cellsOf e=bj U D t)(Mn:nS P e=some (aL t))(lv:0<P.cellsOf e){cs:List AV}{v:den U.C t}(hc:cs.take (bj U D t)=(enc T t v).cells)(hl:bj U D t<=cs.length){K:AV->Prop}(hK:K (enc T t v)):jM P e cs K:=by
 unfold jM;rw[Mn];cases hs:aL t with
 |true=>simp only;refine⟨⟨lv,by rw[n4];exact hl⟩,?_⟩;rw[n4,hc,jQ _ hs];exact hK|false=>
  simp only;refine⟨⟨lv,by rw[n4];exact hl⟩,?_⟩;have h1:bj U D t=1:=by have:=dP L v;rw[jN hs]at this;simpa using this.symm
  rw[h1,jN hs]at hc;cases cs with
  |nil=>simp at hc|cons c rest=>simp at hc;subst hc;exact hK
include L in
theorem Nh(hT:kL P E T X e t){cs:List AV}{v:den U.C t}(hc:cs.take (bj U D t)=(enc T t v).cells)(hl:bj U D t<=cs.length){K:AV->Prop}(hK:K (enc T t v)):jM P e cs K:=A7 L hT.cells hT.agg hT.pos hc hl hK
include L in
theorem A8(P:Program)(E:Env){x:den U.C te}{v:den U.C t}(h:OG t te x k=some v)(ho:fg t=true)(Jr:fg te=true):
  ((enc T te x).cells.drop k).take (bj U D t)=(enc T t v).cells/\bj U D t<=((enc T te x).cells.drop k).length:=by
 unfold OG at h;cases hc:(Nat.beq k 0&&decide (te=t))with
 |true=>rw[hc]at h;simp only[ba]at h;obtain⟨e,rfl⟩:=bH h;subst e;simp only[aD]at hc;obtain rfl:k=0:=bM hc.1;rw[CE,dP L x];exact⟨by rw[<-dP L x,DD],aP _⟩|false=>
  rw[hc]at h;simp only[bc]at h;split at h
  ·rename_i v' rest hu;simp only[ah]at h;subst h;have hf:=iQ (P:=P) (E:=E) (bx:=[]) (g:=λ_=>0) (tick:=0) L D te x (iz L te) Jr;rw[lV]at hu;obtain⟨_,h2,h3⟩:=iA L D t _ _ _ _ (iz L t) ho (hf.drop k) hu;rw[<-C8,<-pj,wc]at h3;refine⟨by simpa using h3,?_⟩;have:=(hf.drop k).1;simp at this h2⊢;omega
  ·cases h
theorem A9(e:a=a)(x:List (zu C a)):M1 e x=x:=rfl
theorem fa.at {m:Nat->Bool} {h:U.C 0} {A:Nat->Option Ob} {V:Nat->Bool} (hH:fa T m h A V) {k:Nat} (hk:k<U.nk) (hm:m k=true) {a:AK} {l:List (zu U.C a)} (hg:vQ U a k h=some l) (i:Nat):
  match l[i]? with
  |some x=>nA (A (dk k i))=Dz T a x|none=>A (dk k i)=none/\V (dk k i)=false:=by
 unfold vQ at hg;split at hg
 ·rename_i e;subst e;simp only[ah]at hg;subst hg;rw[A9];have:=hH k hk hm i;cases hl:(U.get k h)[i]? with
  |none=>rw[hl]at this;exact this|some x=>rw[hl]at this;exact this
 ·cases hg
theorem aq{b:Bool}{o:Option β}{x:β}(h:(bif b then o else none)=some x):b=true/\o=some x:=by
 cases b with
 |true=>exact ⟨rfl,h⟩|false=>cases h
theorem OW{l:List (den U.C t)}(h:Q5 U k t s=some l)(hS:aN P E T X s q){x:den U.C t}(hx:l[i]?=some x):q.a (dk k i)=some (.cells (enc T t x).cells):=by obtain⟨h1,h2⟩:=aq h;simp only[aD,gE]at h1;have:=hS.heap.at h1.2 h1.1 h2 i;have bV:(l:List (zu U.C (.obj t)))[i]?=some x:=hx;rw[bV]at this;exact Aw this
theorem xW{l:List (Option (List (den U.C t)))}(h:H0 U k t e s=some l)(hS:aN P E T X s q){xs:List (den U.C t)}(hx:fk l i=some xs):q.a (dk k i)=some (.aT e (xs.map (enc T t))):=by
 obtain⟨h1,h2⟩:=aq h;simp only[aD,gE]at h1;have:=hS.heap.at h1.2 h1.1 h2 i;unfold fk at hx;cases hl:l[i]? with
 |none=>rw[hl]at hx;cases hx
 |some y=>rw[hl]at hx;obtain rfl:y=some xs:=hx;have bV:(l:List (zu U.C (.aT t e)))[i]?=some (some xs):=hl;rw[bV]at this;exact FL this
theorem Io{a:Ty}{l:List (List (den U.C a×den U.C b))}(h:maps U k a b s=some l)(hS:aN P E T X s q){es:List (den U.C a×den U.C b)}(hx:l[i]?=some es):∃c,q.a (dk k i)=some (.map (es.map λp=>(enc T a p.1,enc T b p.2)) c):=by obtain⟨h1,h2⟩:=aq h;simp only[aD,gE]at h1;have:=hS.heap.at h1.2 h1.1 h2 i;have bV:(l:List (zu U.C (.map a b)))[i]?=some es:=hx;rw[bV]at this;exact Qv this
include L in
theorem xX(hT:kL P E T X e t)(ho:fg te=true){x:den U.C te}{r:R U.C}(h:H5 t te x k=some r){bx:List (Nat×Nat×B U.C)}:
  jM P e ((enc T te x).cells.drop k) λv=>bn P E T bx g tick r (.val v):=by
 unfold H5 at h;cases hs:aL t with
 |true=>
  rw[hs]at h;simp only[ba]at h;split at h
  ·rename_i v hv;simp only[ah]at h;subst h;obtain⟨c1,c2⟩:=A8 L P E hv hT.ok ho;exact Nh L hT c1 c2 (K:=λv=>bn P E T bx g tick _ (.val v)) (aY hT.ok)
  ·cases h
 |false=>
  rw[hs]at h;simp only[bc,lV]at h;have h1:bj U D t=1:=by cases t<;>first|rfl|(simp[aL]at hs)
  have hf:=(iQ (P:=P) (E:=E) (bx:=bx) (g:=g) (tick:=tick) L D te x (iz L te) ho).drop k;cases hr:(oz U D te x).drop k with
  |nil=>rw[hr]at h;cases h
  |cons r' l=>
   rw[hr]at h hf;simp only[List.head?_cons,ah]at h;subst h;obtain⟨c,ps,h3,h4,h5⟩:=hf.Im;rw[<-C8]at h3;cases hc:(enc T te x).cells.drop k with
   |nil=>rw[hc]at h3;cases h3
   |cons c' l'=>rw[hc]at h3;simp only[eD,Gp]at h3;unfold jM;rw[hT.agg,hs];simp only;refine⟨⟨hT.pos,by rw[hT.cells,h1];simp⟩,?_⟩;show bn P E T bx g tick r' (.val c');rw[h3.1];exact h4
theorem DE{p:Option (den U.C te)}{x:den U.C te}{bx:List (Nat×Nat×B U.C)}(h:bn P E T bx g tick (.val (.ref te) p) u)(hp:p=some x):fg te=true/\u=.val (.ref (enc T te x).cells):=by
 subst hp;cases h with
 |val _ _ _ av hq hv=>obtain⟨Sl,rfl⟩:=hv;exact⟨Sl,Q9 hq⟩
theorem uC{q:br}(h:bh q=some (.ptr i off)):q=.val (.ptr i off):=by cases q<;>simp[bh]at h;rw[h]
theorem xY{bx:List (Nat×Nat×B U.C)}(h:bn P E T bx g tick (.val (.ptr k) p) u)(hp:p=some i):u=.val (.ptr (dk k i) 0):=by
 subst hp;cases h with
 |val _ _ _ av hq hv=>obtain⟨_,rfl⟩:=hv;exact uC hq
theorem zG{h:U.C 0}{l:List (zu U.C a)}(hg:vQ U a k h=some l):U.ak k=a:=by
 unfold vQ at hg;split at hg
 ·assumption
 ·cases hg
theorem Ra{l:List (den U.C t)}(h:Q5 U k t s=some l):U.ak k=.obj t:=zG (aq h).2
theorem qX{l:List (Option (List (den U.C t)))}(h:H0 U k t e s=some l):U.ak k=.aT t e:=zG (aq h).2
def we(P:Program)(q:St)(e:TypeId)(u:br)(K:br->Prop):Prop:=
 AS P q e u K∨match u with
  |.val (.ptr i off)=>match q.a i with
   |some (.cells cs)=>fC P e (cs.drop off) λv=>K (.val v)|some (.aT e' xs)=>∃y,xs[off/P.cellsOf e']?=some y/\fC P e (y.cells.drop (off%P.cellsOf e')) λv=>K (.val v)
   |_=>False
  |_=>False
theorem we.value {q:St} {x:Operand} {o:Oper} {K:br->Prop} (ho:o.op=.load e x) (h:we P q e (q.ev x) K):gD P o q K:=by
 rcases h with h|h
 ·left;unfold gx;simp only[ho];exact OB h
 ·right;unfold FW;simp only[ho];exact h
include L in
theorem Km(hX:bG P E T X)(hT:kL P E T X e t){K:R U.C->Option α}(h:Dg.H6 U s t k i off K=some out):∃r,K r=some out/\∀q,aN P E T X s q->we P q e (.val (.ptr (dk k i) off)) λu'=>bn P E T s.b q.g s.tick r u':=by
 unfold Dg.H6 at h;split at h
 ·rename_i te hk;split at h
  ·rename_i l hl;obtain⟨x,hx,h⟩:=bind_some h;split at h
   ·rename_i r j5;refine⟨r,h,λq hS=>.inr ?_⟩;simp only[OW hl hS hx];exact qL (xX L hT (hX.obj k te (Ra hl)) j5)
   ·cases h
  ·cases h
 ·cases h
theorem Ni{cs:List AV}{K:AV->Prop}(h:jM P e cs K):0<cs.length:=by
 unfold jM at h;split at h
 ·have:=h.1.1;have:=h.1.2;omega
 ·have:=h.1.1;have:=h.1.2;omega
 ·exact h.elim
include L in
theorem TI(hX:bG P E T X)(hT:kL P E T X e t){p:R U.C}{K:R U.C->Option α}(h:Dg X s t p K=some out):
  ∃r,K r=some out/\∀q u,aN P E T X s q->bn P E T s.b q.g s.tick p u->we P q e u λu'=>bn P E T s.b q.g s.tick r u':=by
 unfold Dg at h;split at h
 ·
  rename_i d k;split at h
  ·rename_i ub rs hb;split at h
   ·rename_i r hr;refine⟨r,h,λq u hS hp=>.inl ?_⟩;have hu:=nt hS hp hb;obtain⟨_,_,cs,hq,sE⟩:=hS.cells hb;subst hu;unfold AS;simp only[hq,hT.agg,rB,cS];unfold Kb at hr;cases hs:aL t with
    |true=>
     rw[hs]at hr;simp only[ba]at hr;split at hr
     ·rename_i x rest hx;simp only[ah]at hr;subst hr;rw[lV]at hx;obtain⟨_,h2,h3⟩:=iA L D t _ _ _ _ (iz L t) hT.ok (sE.drop k) hx;rw[hT.cells,h3];have hl:=(sE.drop k).1;refine⟨⟨by simp,by rw[<-hT.cells];exact hT.pos,by omega⟩,?_⟩;rw[jQ _ hs];exact aY hT.ok
     ·cases hr
    |false=>
     rw[hs]at hr;simp only[bc,lV]at hr;have h1:bj U D t=1:=by cases t<;>first|rfl|(simp[aL]at hs)
     cases rP:rs.drop k with
     |nil=>rw[rP]at hr;cases hr
     |cons r' l=>rw[rP]at hr;simp only[List.head?_cons,ah]at hr;subst hr;have h2:=sE.drop k;rw[rP]at h2;obtain⟨c,ps,h3,h4,h5⟩:=h2.Im;rw[h3];exact⟨⟨by simp,hT.pos,by rw[hT.cells,h1];simp⟩,h4⟩
   ·cases h
  ·cases h
 ·
  rename_i d i k mn te x;split at h
  ·rename_i Fu e' xs hb;have key:∀(y:den U.C Fu)(r:R U.C)(q:St)(u:br),aN P E T X s q->bn P E T s.b q.g s.tick (.gl d i k mn te x) u->xs[i]?=some y->H5 t Fu y k=some r->we P q e u λu'=>bn P E T s.b q.g s.tick r u':=by
    intro y r q u hS hp hy j5;obtain⟨hU,hq⟩:=hS.aT hb;have je:=hX.ty _ _ hU;cases hp with
    |gl _ _ _ _ _ _ _ hv mi=>obtain⟨rfl,hi,abd⟩:=mi _ _ _ _ (c7 hb);left;unfold AS;simp only[hq,dd,hy,bQ];exact⟨⟨trivial,je.cells.symm⟩,xX L hT je.ok j5⟩
   cases hvq:Nat.beq mn (s.mn d)with
   |true=>
    rw[hvq]at h;simp only[ba]at h;split at h
    ·rename_i r j5;refine⟨r,h,λq u hS hp=>?_⟩;have sS:=hp;cases hp with
     |gl _ _ _ _ _ _ _ hv mi=>obtain⟨_,hi,abd⟩:=mi _ _ _ _ (c7 hb);have:=abd (bM hvq).symm;simp only[Sigma.mk.injEq]at this;obtain⟨rfl,h2⟩:=this;exact key x r q _ hS sS (eq_of_heq h2) j5
    ·cases h
   |false=>
    rw[hvq]at h;simp only[bc]at h;obtain⟨y,hy,h⟩:=bind_some h;split at h
    ·rename_i r j5;exact⟨r,h,λq u hS hp=>key y r q u hS hp hy j5⟩
    ·cases h
  ·cases h
 ·
  rename_i te x k;split at h
  ·rename_i r j5;refine⟨r,h,λq u hS hp=>.inl ?_⟩;cases hp with
   |dn _ _ _ Sl=>exact xX L hT Sl j5
  ·cases h
 ·
  rename_i te p;obtain⟨x,hpx,h1⟩:=bind_some h;clear h;have h:=h1;split at h
  ·rename_i r j5;refine⟨r,h,λq u hS hp=>.inl ?_⟩;obtain⟨Sl,rfl⟩:=DE hp hpx;have:=xX (P:=P) (E:=E) (bx:=s.b) (g:=q.g) (tick:=s.tick) L hT Sl j5;rw[CE]at this;exact this
  ·cases h
 ·
  rename_i k i off;obtain⟨r,h1,h2⟩:=Km L hX hT h;exact⟨r,h1,λq u hS hp=>by cases hp;exact h2 q hS⟩
 ·rename_i k p;obtain⟨i,hpi,h⟩:=bind_some h;obtain⟨r,h1,h2⟩:=Km L hX hT h;exact⟨r,h1,λq u hS hp=>by rw[xY hp hpi];exact h2 q hS⟩
 ·
  rename_i k i j off;split at h
  ·rename_i te e' hk;split at h
   ·rename_i l hl;replace hl:=aq hl;obtain⟨hU,hl⟩:=hl;replace hU:=eF hU;obtain⟨xs,iY,h⟩:=bind_some h;obtain⟨x,hx,h⟩:=bind_some h;split at h
    ·rename_i r j5;refine⟨r,h,λq u hS hp=>.inr ?_⟩;cases hp;have ha:=xW hl hS iY;have je:=hX.ty _ _ hU;have hr:=xX (P:=P) (E:=E) (bx:=s.b) (g:=q.g) (tick:=s.tick) L hT je.ok j5;have eK:off<P.cellsOf e':=by have:=Ni hr;rw[xi,dP L,<-je.cells]at this;omega
     have hz:T.hz k=P.cellsOf e':=by rw[L.hz k te e' hk,je.cells]
     have lv:0<P.cellsOf e':=by omega
     simp only[ha,hz];have hd:(j*P.cellsOf e'+off)/P.cellsOf e'=j:=by rw[vy,Nat.mul_add_div lv,Nat.div_eq_of_lt eK,mL]
     have hm:(j*P.cellsOf e'+off)%P.cellsOf e'=off:=by rw[vy,Nat.mul_add_mod,Nat.mod_eq_of_lt eK]
     refine⟨enc T te x,by rw[hd];simp[hx],?_⟩;rw[hm];exact qL hr
    ·cases h
   ·cases h
  ·cases h
 ·cases h
end
section
variable{P:Program}{E:Env}{U:cm}{T:da U.C}{X:Ctx U}{w0:World}{I0:Cells}{n:Nat}{o:Oper}{s:S U.C}{q:St}{α:Type}{out:α}
variable(L:Lawful U T)
def L5(P:Program)(E:Env)(T:da U.C)(X:Ctx U)(w0:World)(I0:Cells)(n:Nat)(o:Oper)(s:S U.C)(r:R U.C):Prop:=∀q,aN P E T X s q->∃u,dm P E w0 I0 n o q u/\bn P E T s.b q.g s.tick r u
theorem Gq{r:R U.C}(ax:aJ n o=true)(h:∀q,aN P E T X s q->gD P o q λu=>bn P E T s.b q.g s.tick r u):L5 P E T X w0 I0 n o s r:=λq hS=>by obtain⟨u,h1,h2⟩:=xp ax (h q hS);exact⟨u,h2,h1⟩
theorem mC{r:R U.C}(ax:aJ n o=true)(h:∀q,aN P E T X s q->ff P o q λu=>bn P E T s.b q.g s.tick r u):L5 P E T X w0 I0 n o s r:=Gq ax λq hS=>nJ (h q hS)
theorem bB{x:Operand}(ax:aJ n o=true)(hx:x∈o.op.operands):bI x=true:=by unfold aJ at ax;have:=rq.1 ax x hx;simp only[aD]at this;exact this.1
theorem aN.fH (hS:aN P E T X s q) (ax:aJ n o=true) {x:Operand} (hx:x∈o.op.operands):bn P E T s.b q.g s.tick (s.ev x) (q.ev x):=hS.ev x (bB ax hx)
theorem Fx(hX:bG P E T X)(hT:kL P E T X e t)(jY:X.mq e=none){x:Operand}(ho:o.op=.fieldAddr e x f)(ax:aJ n o=true){K:R U.C->Option α}(h:vS s t f (s.ev x) K=some out):
  ∃r,K r=some out/\L5 P E T X w0 I0 n o s r:=by
 have qu:x∈o.op.operands:=by simp[ho,Op.operands]
 have OX:∀r,(∀q,aN P E T X s q->js P q e f (q.ev x) λu=>bn P E T s.b q.g s.tick r u)->L5 P E T X w0 I0 n o s r:=λr h=>mC ax λq hS=>by unfold ff;simp only[ho];exact h q hS
 have abe:∀r,(∀q,aN P E T X s q->∃i off,q.ev x=.val (.ptr i off)/\∃fo ft,lJ P e f=some (fo,ft)/\bn P E T s.b q.g s.tick r (.val (.ptr i (off+fo))))->L5 P E T X w0 I0 n o s r:=λr h=>Gq ax λq hS=>by right;unfold FW;obtain⟨i,off,h1,h2⟩:=h q hS;simp only[ho,h1];exact h2
 unfold vS at h;split at h
 ·rename_i off ft hf;obtain⟨m,rfl⟩:∃m,t=.struct m:=by cases t<;>first|exact ⟨_,rfl⟩|cases hf
  obtain⟨fe,Qz,_⟩:=hT.field jY m rfl f off ft hf;split at h
  ·rename_i d k hp;split at h
   ·rename_i ub rs hb;refine⟨_,h,OX _ λq hS=>?_⟩;have mi:=hS.fH ax qu;rw[hp]at mi;unfold js;simp only[Qz,nt hS mi hb];obtain⟨_,_,cs,hq,_⟩:=hS.cells hb;exact⟨⟨trivial,by rw[hq];simp⟩,.loc d _ _ λst u yR oD=>rfl⟩
   ·cases h
  ·rename_i d i k mn te y hp;split at h
   ·rename_i Fu e' xs hb;refine⟨_,h,OX _ λq hS=>?_⟩;have mi:=hS.fH ax qu;rw[hp]at mi;unfold js;simp only[Qz];obtain⟨_,hq⟩:=hS.aT hb;generalize q.ev x=u at mi;cases mi with
    |gl _ _ _ _ _ _ _ hv mi=>obtain⟨rfl,hi,abd⟩:=mi _ _ _ _ (c7 hb);refine⟨⟨rfl,by rw[hq];simp⟩,.gl d i _ mn te y _ hv λst t' e om oD=>?_⟩;obtain⟨h1,h2,h3⟩:=mi _ _ _ _ oD;refine⟨?_,h2,h3⟩;simp only[br.loc.injEq]at h1⊢;exact⟨trivial,trivial,h1.2.2.1,trivial,trivial⟩
   ·cases h
  ·rename_i te y k hp;refine⟨_,h,OX _ λq hS=>?_⟩;have mi:=hS.fH ax qu;rw[hp]at mi;unfold js;simp only[Qz];generalize q.ev x=u at mi;cases mi with
   |dn _ _ _ Sl=>have:=bn.dn (P:=P) (E:=E) (T:=T) (bx:=s.b) (g:=q.g) (tick:=s.tick) te y (k+off) Sl;simp only[Kl];exact this
  ·rename_i te p hp;obtain⟨y,hpy,h⟩:=bind_some h;refine⟨_,h,OX _ λq hS=>?_⟩;have mi:=hS.fH ax qu;rw[hp]at mi;unfold js;obtain⟨Sl,hu⟩:=DE mi hpy;simp only[Qz,hu];exact .dn te y off Sl
  ·rename_i k i o' hp;refine⟨_,h,abe _ λq hS=>?_⟩;have mi:=hS.fH ax qu;rw[hp]at mi;generalize q.ev x=u at mi;cases mi;exact⟨_,_,rfl,_,_,Qz,.jZ k i _⟩
  ·rename_i k p hp;obtain⟨i,hpi,h⟩:=bind_some h;refine⟨_,h,abe _ λq hS=>?_⟩;have mi:=hS.fH ax qu;rw[hp]at mi;exact⟨_,_,xY mi hpi,_,_,Qz,by rw[cS];exact .jZ k i _⟩
  ·rename_i k i j o' hp;refine⟨_,h,abe _ λq hS=>?_⟩;have mi:=hS.fH ax qu;rw[hp]at mi;generalize q.ev x=u at mi;cases mi;exact⟨_,_,rfl,_,_,Qz,by rw[iU];exact .jv k i j _⟩
  ·cases h
 ·cases h
theorem gn(h:P.underlying e=some (.slice el)):dO P e=some el:=by simp[dO,h]
theorem DF{γ:Type}(f:β->γ){l:List β}{i:Int}{x:β}(h:aA l i=some x):0<=i/\(l.map f)[i.toNat]?=some (f x)/\l[i.toNat]?=some x/\i<(l.length:Int):=by obtain⟨h1,h2,h3⟩:=Ge h;exact⟨h1,by simp[h2],h2,h3⟩
include L in
theorem Fy(hX:bG P E T X)(hT:kL P E T X e (.list t))(jk:X.elem e=some el){x:Operand}(ho:o.op=.indexAddr e x y)(ax:aJ n o=true){m:Int}(hm:Ft (s.ev y)=some m){K:R U.C->Option α}
  (h:vT s t el (s.ev x) m K=some out):∃r,K r=some out/\L5 P E T X w0 I0 n o s r:=by
 obtain⟨hu,hU⟩:=hT.elem t el rfl jk;have je:=hX.ty _ _ hU;have qu:x∈o.op.operands:=by simp[ho,Op.operands]
 have B2:y∈o.op.operands:=by simp[ho,Op.operands]
 have OX:∀r,(∀q k,aN P E T X s q->jt P q e (q.ev x) (.val (.fl (.int k m))) λu=>bn P E T s.b q.g s.tick r u)->L5 P E T X w0 I0 n o s r:=λr h=>mC ax λq hS=>by unfold ff;simp only[ho];obtain⟨k,hk⟩:=lW (hS.fH ax B2) hm;rw[hk];exact h q k hS
 unfold vT at h;split at h
 ·rename_i te xs hp;cases hd:decide (te=t)with
  |false=>rw[hd]at h;cases h
  |true=>
   rw[hd]at h;obtain rfl:=eF hd;simp only[ba]at h;obtain⟨z,hz,h⟩:=bind_some h;obtain⟨h1,h2,_,_⟩:=DF (enc T te) hz;refine⟨_,h,OX _ λq k hS=>?_⟩;have mi:=hS.fH ax qu;rw[hp]at mi;have hk:=bn.dn (P:=P) (E:=E) (T:=T) (bx:=s.b) (g:=q.g) (tick:=s.tick) te z 0 je.ok;rw[CE]at hk;unfold jt;simp only[gn hu];generalize q.ev x=u at mi;cases mi with
   |val _ _ _ av hq hv=>obtain⟨_,rfl⟩:=hv;rcases qW (cs:=xs.map (enc T te)) hq with e|e<;>rw[e]<;>simp only[h2]<;>exact ⟨⟨je.pos,h1,by rw[dP L,je.cells]⟩,hk⟩
 ·rename_i te xs hp;cases hd:decide (te=t)with
  |false=>rw[hd]at h;cases h
  |true=>
   rw[hd]at h;obtain rfl:=eF hd;simp only[ba]at h;obtain⟨z,hz,h⟩:=bind_some h;obtain⟨h1,h2,_,_⟩:=DF (enc T te) hz;refine⟨_,h,OX _ λq k hS=>?_⟩;have mi:=hS.fH ax qu;rw[hp]at mi;have hk:=bn.dn (P:=P) (E:=E) (T:=T) (bx:=s.b) (g:=q.g) (tick:=s.tick) te z 0 je.ok;rw[CE]at hk;unfold jt;simp only[gn hu];generalize q.ev x=u at mi;cases mi with
   |full _ _ ho=>simp only[h2];exact⟨⟨je.pos,h1,by rw[dP L,je.cells]⟩,hk⟩
 ·rename_i d hp;split at h
  ·rename_i te e' xs hb;cases hd:(decide (te=t)&&Nat.beq e' el)with
   |false=>rw[hd]at h;cases h
   |true=>rw[hd]at h;simp only[aD,az]at hd;obtain⟨rfl,he⟩:=hd;obtain rfl:=bM he;simp only[ba]at h;obtain⟨z,hz,h⟩:=bind_some h;obtain⟨h1,h2,h3,h4⟩:=DF (enc T te) hz;refine⟨_,h,OX _ λq k hS=>?_⟩;have mi:=hS.fH ax qu;rw[hp]at mi;obtain⟨_,hq⟩:=hS.aT hb;rw[fh hS mi hb];unfold jt;simp only[gn hu];refine⟨⟨je.pos,h1,trivial,⟨_,hq⟩,h4⟩,.gl d m.toNat 0 (s.mn d) te z _ (hS.Fw d _ _ (c7 hb)) λst t' e2 om oD=>?_⟩;rw[c7 hb]at oD;simp only[ah,aS,B.aT.injEq]at oD;obtain⟨rfl,rfl,rfl,oD⟩:=oD;cases oD;refine⟨by rw[je.cells,cS],by omega,λ_=>by rw[h3]⟩
  ·cases h
 ·rename_i k p hp;split at h
  ·rename_i te e' hk;cases hd:(decide (te=t)&&Nat.beq e' el)with
   |false=>rw[hd]at h;cases h
   |true=>
    rw[hd]at h;simp only[aD,az]at hd;obtain⟨rfl,he⟩:=hd;obtain rfl:=bM he;simp only[ba]at h;obtain⟨z,hz,h⟩:=bind_some h;obtain⟨_,hc,h⟩:=bind_some h;have hc:=dx hc;simp only[aD,az]at hc;refine⟨_,h,Gq ax λq hS=>?_⟩;have mi:=hS.fH ax qu;rw[hp]at mi;obtain⟨ki,hki⟩:=lW (hS.fH ax B2) hm;have hq:q.ev x=.val (.view (dk k z.1) (T.hz k) z.2):=by
     generalize q.ev x=u at mi;cases mi with
     |val _ _ _ av hq hv=>obtain⟨_,rfl⟩:=hv;have JE:p=some z:=hz;subst JE;cases u<;>simp[bh,enc,jA]at hq;rw[hq]
    have Xn:T.hz k=P.cellsOf e':=by rw[L.hz k te e' hk,je.cells]
    right;unfold FW;simp only[ho,hq];exact⟨e',ki,m,gn hu,hki,⟨je.pos,Xn,hc.1,by omega⟩,.jv k z.1 m.toNat 0⟩
  ·cases h
 ·cases h
end
section
variable{P:Program}{E:Env}{U:cm}{T:da U.C}{X:Ctx U}{w0:World}{I0:Cells}{n:Nat}{o:Oper}{s:S U.C}{q:St}{α:Type}{out:α}
variable(L:Lawful U T)
def TJ(dflt:Nat):Option Int->Nat
 |none=>dflt|some m=>m.toNat
theorem wg{dflt:Nat}{x:Option Operand}(hS:aN P E T X s q)(hx:∀y,x=some y->bI y=true){b:Option Int}(h:qh s none x=some b)(h0:∀m,b=some m->0<=m):nD q dflt x=some (TJ dflt b):=by
 cases x with
 |none=>simp only[qh,ah]at h;subst h;rfl|some y=>
  simp only[qh]at h;have hr:=hS.ev y (hx y rfl);have hm:∃m,Ft (s.ev y)=some m/\b=some m:=by
   split at h
   ·rename_i Fm;simp only[ah]at h;rw[Fm];exact ⟨_,rfl,h.symm⟩
   ·rename_i Fm;simp only[ah]at h;rw[Fm];exact ⟨_,rfl,h.symm⟩
   ·cases h
  obtain⟨m,hm,rfl⟩:=hm;obtain⟨k,e⟩:=lW hr hm;have:=h0 m rfl;simp[nD,e,this,TJ]
theorem Ba{xs:List β}{lo hi:Option Int}{K:List β->Option α}(h:zy xs lo hi K=some out):
  ∃l q:Nat,TJ 0 lo=l/\TJ xs.length hi=q/\(∀m,lo=some m->0<=m)/\(∀m,hi=some m->0<=m)/\l<=q/\q<=xs.length/\K ((xs.drop l).take (q-l))=some out:=by
 unfold zy at h;split at h
 ·exact ⟨0,xs.length,rfl,rfl,by simp,by simp,eC _,aP _,by simpa using h⟩
 ·rename_i l;obtain⟨_,hc,h⟩:=bind_some h;have:=dx hc;simp only[aD,az]at this;refine⟨l.toNat,xs.length,rfl,rfl,by simpa using this.1,by simp,this.2,aP _,?_⟩;rw[cV (by simp)];exact h
 ·rename_i r;obtain⟨_,hc,h⟩:=bind_some h;have:=dx hc;simp only[aD,az]at this;exact⟨0,r.toNat,rfl,rfl,by simp,by simpa using this.1,eC _,this.2,by simpa using h⟩
 ·rename_i l r;obtain⟨_,hc,h⟩:=bind_some h;have:=dx hc;simp only[aD,az]at this;refine⟨l.toNat,r.toNat,rfl,rfl,by simpa using this.1,by simpa using this.2.1,this.2.2.1,this.2.2.2,?_⟩;rw[List.drop_take]at h;exact h
theorem TK{k k':IntKind}{x y:Int}{K:(t:Ty)->den U.C t->Option α}(h:Kc op k x y K=some out):
  ∃t v,K t v=some out/\fg t=true/\tr (sV op k x y) (·=.val (enc T t v)):=by
 unfold Kc at h;split at h<;>simp only[sV,tr]
 ·exact ⟨_,_,h,rfl,rfl⟩
 ·exact ⟨_,_,h,rfl,rfl⟩
 ·exact ⟨_,_,h,rfl,rfl⟩
 ·obtain ⟨_,hc,h⟩:=bind_some h;have:=dx hc;simp only[ne_eq,decide_not,hO,bz]at this;rw[ai this];exact⟨_,_,h,rfl,rfl⟩
 ·obtain ⟨_,hc,h⟩:=bind_some h;have:=dx hc;simp only[ne_eq,decide_not,hO,bz]at this;rw[ai this];exact⟨_,_,h,rfl,rfl⟩
 ·exact ⟨_,_,h,rfl,rfl⟩
 ·exact ⟨_,_,h,rfl,rfl⟩
 ·exact ⟨_,_,h,rfl,rfl⟩
 ·exact ⟨_,_,h,rfl,rfl⟩
 ·obtain ⟨_,hc,h⟩:=bind_some h;have:=dx hc;simp only[az]at this;rw[ai (by omega)];exact⟨_,_,h,rfl,rfl⟩
 ·obtain ⟨_,hc,h⟩:=bind_some h;have:=dx hc;simp only[az]at this;rw[ai (by omega)];exact⟨_,_,h,rfl,rfl⟩
 all_goals exact ⟨_,_,h,rfl,rfl⟩
theorem TL{x y:bE}{K:(t:Ty)->den U.C t->Option α}(h:Ts op x y K=some out):
  ∃t v,K t v=some out/\fg t=true/\tr (mQ op x y) (·=.val (enc T t v)):=by
 unfold Ts at h;split at h<;>simp only[mQ,tr]
 ·obtain ⟨_,hc,h⟩:=bind_some h;have:=dx hc;simp only[az]at this;rw[ap this];exact⟨_,_,h,rfl,rfl⟩
 all_goals first|exact ⟨_,_,h,rfl,rfl⟩|cases h
theorem Gr{v:den U.C t}(ho:fg t=true){ov:Option Value}(h:tr ov (·=.val (enc T t v))){bx:List (Nat×Nat×B U.C)}:tr ov λu=>bn P E T bx g tick (.val t v) u:=by
 unfold tr at h⊢;cases ov with
 |none=>exact h|some x=>have h:br.val (.fl x)=.val (enc T t v):=h;show bn P E T bx g tick (.val t v) (.val (.fl x));rw[h];exact aY ho
theorem Bb{r:R U.C}{bx:List (Nat×Nat×B U.C)}(h:bn P E T bx g tick r u)(hn:xQ r=true):u=.val (.fl (.pointer none)):=by
 unfold xQ at hn;split at hn
 ·cases h;rfl
 ·cases hn
theorem Kn{r:R U.C}{bx:List (Nat×Nat×B U.C)}(h:bn P E T bx g tick r u)(hn:Df r=true):u=.val (.fl (.map none)):=by
 unfold Df at hn;split at hn
 ·cases h;rfl
 ·cases hn
theorem Ko{w:World}{I:Cells}{b:Nat->Option Bx}{v:Value}(h:bD P w I be b g v u){a:Option Nat}(hu:bh u=some (vX a k)):∃p:Option Addr,v=.pointer p/\p.isNone=a.isNone:=by
 have hr:=c9 h hu;cases a with
 |none=>exact ⟨none,bR hr,rfl⟩|some i=>obtain ⟨p,e⟩:=xI hr;exact ⟨some p,e,rfl⟩
theorem Kp{w:World}{I:Cells}{b:Nat->Option Bx}{v:Value}(h:bD P w I be b g v u){f:β->AV}{a:Option β}(hu:bh u=some (Ig f a)):∃p:Option Addr,v=.pointer p/\p.isNone=a.isNone:=by
 have hr:=c9 h hu;cases a with
 |none=>exact ⟨none,bR hr,rfl⟩|some i=>obtain ⟨p,e⟩:=Da hr;exact ⟨some p,e,rfl⟩
theorem Kq{w:World}{I:Cells}{b:Nat->Option Bx}{v:Value}(h:bD P w I be b g v u){a:Option Nat}(hu:bh u=some (Dy a k)):∃p:Option Nat,v=.map p/\p.isNone=a.isNone:=by
 have hr:=c9 h hu;cases a with
 |none=>exact ⟨none,bR hr,rfl⟩|some i=>obtain ⟨B,_,e⟩:=xJ hr;exact ⟨some B,e,rfl⟩
include L in
theorem Xo{t':TypeId}(hT:kL P E T X e t)(jY:X.mq e=none){x:Operand}(ho:o.op=.binOp op e x y t')(ax:aJ n o=true){ty:Option Ty}
  {K:(t:Ty)->den U.C t->Option α} (h:aa4 o op t (s.ev x) (s.ev y) ty K=some out):∃t v,K t v=some out/\L5 P E T X w0 I0 n o s (.val t v):=by
 have Kr:x∈o.op.operands:=by simp[ho,Op.operands]
 have B2:y∈o.op.operands:=by simp[ho,Op.operands]
 have OX:∀(t:Ty)(v:den U.C t),(∀q G,aN P E T X s q->Tf P op e (q.ev x) (q.ev y) (λu=>bn P E T s.b q.g s.tick (.val t v) u) G)->L5 P E T X w0 I0 n o s (.val t v):=λt v h=>mC ax λq hS=>by unfold ff;simp only[ho];exact h q _ hS
 unfold aa4 at h;split at h
 ·rename_i k;split at h
  ·cases h
  ·rename_i a ha;have AX:∃k' b,(∀q,aN P E T X s q->q.ev y=.val (.fl (.int k' b)))/\Kc op k a b K=some out/\(k'=k∨lL op=true):=by
    split at h
    ·rename_i k' b hb;cases hk:(decide (k'=k)||lL op)with
     |false=>rw[hk]at h;cases h
     |true=>
      rw[hk]at h;simp only[lP,az]at hk;refine⟨k',b,λq hS=>?_,h,hk⟩;have hy:=hS.fH ax B2;rw[hb]at hy;generalize q.ev y=v at hy;cases hy with
      |val _ _ _ av hq hv=>rw[gm hv rfl]at hq;exact dp hq
    ·rename_i k' b hb;cases hk:(decide (k'=k)||lL op)with
     |false=>rw[hk]at h;cases h
     |true=>
      rw[hk]at h;simp only[lP,az]at hk;refine⟨k',b,λq hS=>?_,h,hk⟩;have hy:=hS.fH ax B2;rw[hb]at hy;generalize q.ev y=v at hy;cases hy with
      |const _ _=>rfl
    ·cases h
   obtain⟨k',b,hyv,h,hk⟩:=AX;obtain⟨t,v,h1,h2,h3⟩:=TK (T:=T) (k':=k') h;refine⟨t,v,h1,OX t v λq G hS=>?_⟩;rw[hyv q hS,dp (cX (hS.fH ax Kr) ha rfl)];exact⟨hk,Gr h2 h3⟩
 ·split at h
  ·rename_i a b ha hb;obtain⟨t,v,h1,h2,h3⟩:=TL (T:=T) h;refine⟨t,v,h1,OX t v λq G hS=>?_⟩;rw[dp (cX (hS.fH ax Kr) ha rfl),dp (cX (hS.fH ax B2) hb rfl)];exact Gr h2 h3
  ·cases h
 ·split at h
  ·rename_i a b ha hb;split at h
   ·refine ⟨_,_,h,OX _ _ λq G hS=>?_⟩;rw[dp (cX (hS.fH ax Kr) ha rfl),dp (cX (hS.fH ax B2) hb rfl)];exact⟨⟨hT.bool rfl,.inl rfl⟩,aY (t:=.bool) rfl⟩
   ·refine ⟨_,_,h,OX _ _ λq G hS=>?_⟩;rw[dp (cX (hS.fH ax Kr) ha rfl),dp (cX (hS.fH ax B2) hb rfl)];exact⟨⟨hT.bool rfl,.inr rfl⟩,aY (t:=.bool) rfl⟩
   ·cases h
  ·cases h
 ·rename_i k;split at h
  ·rename_i a ha hn;obtain⟨el,hu⟩:=hT.ptr k rfl;have key:(op=.eql∨op=.neq)->L5 P E T X w0 I0 n o s (.val .bool (if op=.eql then Option.isNone (α:=Nat) a else !Option.isNone (α:=Nat) a)):=λsX q hS=>
    ⟨_,xH ho ax hu sX (Bb (hS.fH ax B2) hn) (λw I be v hv=>Ko hv (cX (hS.fH ax Kr) ha rfl)),aY (t:=.bool) rfl⟩
   split at h
   ·exact ⟨_,_,h,key (.inl rfl)⟩
   ·exact ⟨_,_,h,key (.inr rfl)⟩
   ·cases h
  ·cases h
 ·rename_i k;split at h
  ·rename_i a ha hn;obtain⟨el,el',hu,_⟩:=hT.mp k rfl;have key:(op=.eql∨op=.neq)->L5 P E T X w0 I0 n o s (.val .bool (if op=.eql then Option.isNone (α:=Nat) a else !Option.isNone (α:=Nat) a)):=λsX q hS=>
    ⟨_,HP ho ax hu sX (Kn (hS.fH ax B2) hn) (λw I be v hv=>Kq hv (cX (hS.fH ax Kr) ha rfl)),aY (t:=.bool) rfl⟩
   split at h
   ·exact ⟨_,_,h,key (.inl rfl)⟩
   ·exact ⟨_,_,h,key (.inr rfl)⟩
   ·cases h
  ·cases h
 ·rename_i k;split at h
  ·rename_i a ha hn;obtain⟨el,hu⟩:=hT.ref k rfl;have key:(op=.eql∨op=.neq)->L5 P E T X w0 I0 n o s (.val .bool (if op=.eql then Option.isNone (α:=den U.C k) a else !Option.isNone (α:=den U.C k) a)):=λsX q hS=>
    ⟨_,xH ho ax hu sX (Bb (hS.fH ax B2) hn) (λw I be v hv=>Kp hv (cX (hS.fH ax Kr) ha hT.ok)),aY (t:=.bool) rfl⟩
   split at h
   ·exact ⟨_,_,h,key (.inl rfl)⟩
   ·exact ⟨_,_,h,key (.inr rfl)⟩
   ·cases h
  ·cases h
 ·rename_i m;split at h
  ·rename_i a b ha hb;split at h
   ·rename_i eb he;obtain⟨ks,h1,h2⟩:=hT.kinds jY m rfl eb _ _ he;rw[<-L.cells,<-L.cells]at h2;have key:(op=.eql∨op=.neq)->L5 P E T X w0 I0 n o s (.val .bool (if op=.eql then eb else !eb)):=λsX=>OX _ _ λq G hS=>by rw[uB (cX (hS.fH ax Kr) ha rfl),uB (cX (hS.fH ax B2) hb rfl)];unfold Tf;simp only[h1,h2];exact⟨sX,aY (t:=.bool) rfl⟩
    split at h
    ·exact ⟨_,_,h,key (.inl rfl)⟩
    ·exact ⟨_,_,h,key (.inr rfl)⟩
    ·cases h
   ·cases h
  ·cases h
 ·cases h
end
section
variable{P:Program}{E:Env}{U:cm}{T:da U.C}{X:Ctx U}{w0:World}{I0:Cells}{n:Nat}{o:Oper}{s:S U.C}{q:St}{α:Type}{out:α}
variable(L:Lawful U T)
def j6(P:Program)(E:Env)(w0:World)(I0:Cells)(n:Nat)(q q':St):Prop:=∀a w,Rel P E w0 I0 n q a w->Rel P E w0 I0 n q' a w
theorem j6.refl (q:St):j6 P E w0 I0 n q q:=λ_ _ h=>h
theorem j6.trans {q:St} (h:j6 P E w0 I0 n q q') (h':j6 P E w0 I0 n q' q''):j6 P E w0 I0 n q q'':=λa w hr=>h' a w (h a w hr)
theorem j6.sound {q:St} (h:j6 P E w0 I0 n q q') {K:St->Prop} (h':Sound P E w0 I0 n o q' K):Sound P E w0 I0 n o q K:=λa w hr=>h' a w (h a w hr)
theorem j6.Nj {q:St} (h:j6 P E w0 I0 n q q') {K:St->Prop} (h':kH P E w0 I0 n o q' K Xp):kH P E w0 I0 n o q K Xp:=λa w hr=>h' a w (h a w hr)
theorem j6.lz {q:St} (h:j6 P E w0 I0 n q q') {c:Code} {Q:bZ->St->Prop} (h':lz P E w0 I0 n c Q Xp q'):lz P E w0 I0 n c Q Xp q:=xu h h'
def mE(q q':St):Prop:=∀x av,bh (q.ev x)=some av->bh (q'.ev x)=some av
theorem mE.refl (q:St):mE q q:=λ_ _ h=>h
theorem mE.trans {q:St} (h:mE q q') (h':mE q' q''):mE q q'':=λx av hr=>h' x av (h x av hr)
theorem mE.abf {q:St} (h:∀t av,bh (q.r t)=some av->bh (q'.r t)=some av):mE q q':=λx av hr=>by
 cases x with
 |tmp t=>exact h t av hr|_=>exact hr
def Ip(a b:Option Bx):Prop:=b=none∨(∃c c',a=some (.cells c)/\b=some (.cells c'))∨∃e l l',a=some (.aT e l)/\b=some (.aT e l')/\l'.length=l.length
theorem Ip.refl (a:Option Bx):Ip a a:=by
 cases a with
 |none=>exact .inl rfl|some x=>cases x with
  |cells c=>exact .inr (.inl ⟨_,_,rfl,rfl⟩)|aT e l=>exact .inr (.inr ⟨_,_,_,rfl,rfl,rfl⟩)
theorem Ip.trans {a b c:Option Bx} (h:Ip a b) (h':Ip b c):Ip a c:=by
 rcases h' with h'|⟨c1,c2,h1,h2⟩|⟨e,l,l',h1,h2,h3⟩
 ·exact .inl h'
 ·rcases h with h|⟨c3,c4,g1,g2⟩|⟨e,l,l',g1,g2,g3⟩
  ·rw[h]at h1;cases h1
  ·exact .inr (.inl ⟨_,_,g1,h2⟩)
  ·rw[g2]at h1;cases h1
 ·rcases h with h|⟨c3,c4,g1,g2⟩|⟨e',l1,l2,g1,g2,g3⟩
  ·rw[h]at h1;cases h1
  ·rw[g2]at h1;cases h1
  ·rw[g2]at h1;cases h1;exact .inr (.inr ⟨_,_,_,g1,h2,h3.trans g3⟩)
theorem Ip.of_eq {a b:Option Bx} (h:b=a):Ip a b:=h▸.refl _
theorem Ip.Ks (f:Nat->Option Bx) (d d':Nat):Ip (f d') (bF f d none d'):=by
 by_cases e:d'=d
 ·subst e;exact .inl (bA _ _ _)
 ·exact .of_eq (ay _ _ e)
theorem Ip.bF {f:Nat->Option Bx} {x:Option Bx} (h:Ip (f d) x) (d':Nat):Ip (f d') (Go.Ev.bF f d x d'):=by
 by_cases e:d'=d
 ·subst e;rw[bA];exact h
 ·exact .of_eq (ay _ _ e)
def DG(s:S U.C)(q q':St):Prop:=(∀t,q'.r t=q.r t∨∃d gg off len,q.r t=.view d gg off len/\ao s.b d≠none/\q'.b d=none)/\(∀d,ao s.b d=none->q'.b d=q.b d)/\q'.g=q.g/\(∀k i,k<U.nk->s.m k=false->q'.a (dk k i)=q.a (dk k i)/\q'.u (dk k i)=q.u (dk k i))/\q'.df=q.df/\∀d,Ip (q.b d) (q'.b d)
theorem DG.refl (s:S U.C) (q:St):DG s q q:=⟨λ_=>.inl rfl,λ_ _=>rfl,rfl,λ_ _ _ _=>⟨rfl,rfl⟩,rfl,λ_=>.refl _⟩
theorem Xq(i:Nat):i=dk (i%1000) (i/1000):=by unfold dk;omega
theorem fa.set {m:Nat->Bool} {h h':U.C 0} {A A':Nat->Option Ob} {V V':Nat->Bool} (L:Lawful U T) (hH:fa T m h A V) {k:Nat} (hk:k<U.nk) {a:AK} {l:List (zu U.C a)} (hs:BZ U a k h l=some h')
  (hl:∀i,match l[i]? with|some x=>nA (A' (dk k i))=Dz T a x|none=>A' (dk k i)=none/\V' (dk k i)=false)
  (ho:∀k' i,k'<U.nk->k'≠k->A' (dk k' i)=A (dk k' i)/\V' (dk k' i)=V (dk k' i)):fa T m h' A' V':=by
 unfold BZ at hs;split at hs
 ·rename_i e;subst e;simp only[ah]at hs;subst hs;intro k' fM hm i;by_cases e:k'=k
  ·subst e;rw[L.Ch _ _ _ hk,A9];have:=hl i;cases hi:l[i]? with
   |none=>rw[hi]at this;exact this|some x=>rw[hi]at this;exact this
  ·rw[L.uz k k' h _ e];have:=hH k' fM hm i;obtain⟨e1,e2⟩:=ho k' i fM e;cases hi:(U.get k' h)[i]? with
   |none=>rw[hi]at this;exact ⟨by rw[e1];exact this.1,by rw[e2];exact this.2⟩|some x=>rw[hi]at this;simp only at this⊢;rw[e1];exact this
 ·cases hs
theorem fa.push (L:Lawful U T) {h h':U.C 0} (hH:fa T m h A V) (hk:k<U.nk) (hm:m k=true) {l:List (zu U.C a)} (hg:vQ U a k h=some l) {x:zu U.C a} (hs:BZ U a k h (l++[x])=some h'):
  A (dk k l.length)=none/\V (dk k l.length)=false/\∀V',(∀j,j≠dk k l.length->V' j=V j)->fa T m h' (bF A (dk k l.length) (Dz T a x)) V':=by
 have h0:=hH.at hk hm hg l.length;rw[Bc (aP _)]at h0;refine⟨h0.1,h0.2,λV' hV=>hH.set L hk hs (λi=>?_) λk' i fM dA=>?_⟩
 ·have h1:=hH.at hk hm hg i;by_cases hi:i<l.length
  ·rw[kf hi];rw[cq hi]at h1⊢;simp only at h1⊢;rw[ay _ _ (λe=>by have:=(iO L hk hk e).2;omega)];exact h1
  ·by_cases he:i=l.length
   ·subst he;rw[lF (aP _)];simp[vZ]
   ·rw[lF (by omega),Bc (by simp;omega)];rw[Bc (by omega)]at h1;have dA:dk k i≠dk k l.length:=λe=>he (iO L hk hk e).2;exact⟨by rw[ay _ _ dA];exact h1.1,by rw[hV _ dA];exact h1.2⟩
 ·have Nk:dk k' i≠dk k l.length:=λe=>dA (iO L fM hk e).1;exact⟨ay _ _ Nk,hV _ Nk⟩
theorem fa.xZ (L:Lawful U T) {h h':U.C 0} (hH:fa T m h A V) (hk:k<U.nk) (hm:m k=true) {l:List (zu U.C a)} (hg:vQ U a k h=some l) (hi:i<l.length) {x:zu U.C a} (hs:BZ U a k h (l.set i x)=some h'):
  fa T m h' (bF A (dk k i) (Dz T a x)) V:=by
 refine hH.set L hk hs (λj=>?_) λk' j fM dA=>?_
 ·have h1:=hH.at hk hm hg j;rw[uW];by_cases hj:i=j
  ·subst hj;simp[hi,vZ]
  ·simp only[hj,bY];have dA:dk k j≠dk k i:=λe=>hj (iO L hk hk e).2.symm;cases hl:l[j]? with
   |none=>rw[hl]at h1;exact ⟨by rw[ay _ _ dA];exact h1.1,h1.2⟩|some y=>rw[hl]at h1;simp only at h1⊢;rw[ay _ _ dA];exact h1
 ·have Nk:dk k' j≠dk k i:=λe=>dA (iO L fM hk e).1;exact⟨ay _ _ Nk,rfl⟩
theorem rQ{l:List (Option (List (den U.C t)))}{h':U.C 0}(h:Cd U k t e s l=some h'):(s.m k=true/\k<U.nk)/\BZ U (.aT t e) k s.h l=some h':=by obtain⟨h1,h2⟩:=aq h;simp only[aD,gE]at h1;exact⟨h1,h2⟩
theorem x5{l:List (den U.C t)}{h':U.C 0}(h:HZ U k t s l=some h'):(s.m k=true/\k<U.nk)/\BZ U (.obj t) k s.h l=some h':=by obtain⟨h1,h2⟩:=aq h;simp only[aD,gE]at h1;exact⟨h1,h2⟩
theorem x6{a:Ty}{l:List (List (den U.C a×den U.C b))}{h':U.C 0}(h:H2 U k a b s l=some h'):(s.m k=true/\k<U.nk)/\BZ U (.map a b) k s.h l=some h':=by obtain⟨h1,h2⟩:=aq h;simp only[aD,gE]at h1;exact⟨h1,h2⟩
theorem zH{l:List (Option (List (den U.C t)))}(h:H0 U k t e s=some l):(s.m k=true/\k<U.nk)/\vQ U (.aT t e) k s.h=some l:=by obtain⟨h1,h2⟩:=aq h;simp only[aD,gE]at h1;exact⟨h1,h2⟩
theorem Gs{l:List (den U.C t)}(h:Q5 U k t s=some l):(s.m k=true/\k<U.nk)/\vQ U (.obj t) k s.h=some l:=by obtain⟨h1,h2⟩:=aq h;simp only[aD,gE]at h1;exact⟨h1,h2⟩
theorem zI{a:Ty}{l:List (List (den U.C a×den U.C b))}(h:maps U k a b s=some l):(s.m k=true/\k<U.nk)/\vQ U (.map a b) k s.h=some l:=by obtain⟨h1,h2⟩:=aq h;simp only[aD,gE]at h1;exact⟨h1,h2⟩
theorem aN.tH {s:S U.C} {q:St} (h:aN P E T X s q) {h':U.C 0} (WA:s.tick<=tk) (hH:fa T s.m h' A V):aN P E T X {s with h:=h',hv:=hv,tick:=tk} {q with a:=A,u:=V}:=⟨λt=>(h.cr t).later WA,λd=>(h.boxes d).mono (λ_ _ _ d _=>.refl d) WA,λt st x hx=>gC (h.Ci t st x hx) WA,λd st x hx=>gC (h.Fw d st x hx) WA,hH,h.df⟩
theorem rR{C:Nat->Type}(d tk:Nat)(v:R C)(l:List (Nat×Nat×R C))(z:Nat):ao (De d tk v l) z=(ao l z).map λe=>match e.2 with|.whole d'=>if d'=d then(tk,v)else e|_=>e:=by
 induction l with
 |nil=>rfl|cons e l ih=>
  obtain⟨z',st,x⟩:=e;cases x with
  |whole d'=>
   simp only[De];by_cases hd:d'=d
   ·subst hd;simp only[rN,ba,aI,ih];split<;>simp
   ·simp only[tD hd,bc,aI,ih];split<;>simp[hd]
  |_=>simp only[De,aI,ih];split<;>rfl
def zJ{C:Nat->Type}(d:Nat)(v:R C):R C->R C
 |.whole d'=>if d'=d then v else .whole d'|r=>r
theorem tI(d:Nat)(v:R U.C):∀(rs:List (R U.C)),M0 d v rs=rs.map (zJ d v)
 |[]=>rfl|r::rs=>by
  cases r with
  |whole d'=>
   simp only[M0,eD,zJ,tI d v rs];by_cases hd:d'=d
   ·subst hd;simp
   ·simp[tD hd,hd]
  |_=>simp only[M0,eD,zJ,tI d v rs]
theorem eI{C:Nat->Type}(d tk:Nat)(v:R C)(l:List (Nat×Nat×B C))(z:Nat):ao (rK d tk v l) z=(ao l z).map λe=>match e.2 with|.cells u rs=>if cF d rs=true then(tk,.cells u (M0 d v rs))else e|_=>e:=by
 induction l with
 |nil=>rfl|cons e l ih=>
  obtain⟨z',st,x⟩:=e;cases x with
  |aT t e ys=>simp only[rK,aI,ih];split<;>rfl|cells u rs=>
   simp only[rK];cases hm:cF d rs with
   |true=>simp only[ba,aI,ih];split<;>simp[hm]|false=>simp only[bc,aI,ih];split<;>simp[hm]
theorem Gt{s:S C}{v:R C}{h':C 0}(hh:(hv=s.hv/\h'=s.h)∨hv=s.tick):
  bu s {r:=De d s.tick v s.r,b:=rK d s.tick v (bk s.b d),tick:=s.tick+1,h:=h',hv:=hv,m:=s.m}:=by
 refine⟨rfl,cL _,λt st y h hs=>?_,λd' st y h hs=>?_,λh=>?_⟩
 ·simp only[rR,ck]at h;obtain⟨⟨jh,y'⟩,h1,h2⟩:=h;cases y' with
  |whole d'=>
   simp only at h2;split at h2
   ·simp only[aS]at h2;omega
   ·simp only[aS]at h2;rw[h1,h2.1,h2.2]
  |_=>simp only[aS]at h2;rw[h1,h2.1,h2.2]
 ·simp only[eI,ck]at h;obtain⟨⟨jh,y'⟩,h1,h2⟩:=h;have h1:=jP h1;cases y' with
  |aT t e ys=>simp only[aS]at h2;rw[h1,h2.1,h2.2]|cells u rs=>
   simp only at h2;split at h2
   ·simp only[aS]at h2;omega
   ·simp only[aS]at h2;rw[h1,h2.1,h2.2]
 ·rcases hh with hh|hh
  ·exact hh
  ·simp only[hh]at h;omega
theorem x7{U:cm}{s:S U.C}(d:Nat)(t:Ty)(xs:List (den U.C t)):bu s (s.freeze d t xs):=Gt (.inl ⟨rfl,rfl⟩)
theorem Bd{U:cm}{s:S U.C}(d k:Nat)(v:Option (Nat×Nat))(h:U.C 0):bu s (s.Ka d k v h):=Gt (.inr rfl)
theorem S.look_eq {C:Nat->Type} (s:S C) (t:Nat):s.look t=match ao s.r t with|some e=>e.2|none=>.none:=by
 unfold S.look;cases ao s.r t with
 |none=>rfl|some e=>rfl
theorem DH{g:Nat}(h:bh u=some av):ju d g c u=u:=by cases u<;>first|rfl|(simp[bh]at h)
theorem Be{g:Nat}(v:Value):ju d g c (cf v)=cf v:=by unfold cf;split<;>rfl
theorem aN.cnv {s:S U.C} {q:St} (h:aN P E T X s q) {xs:List (den U.C t)} (hb:s.box d=some (.aT t e xs)) {v:R U.C} (hc:c 0 xs.length=some av)
  (hv:∀bx g tick,bn P E T bx g tick v (.val av)) {h':U.C 0} {MH:Nat} (hH:fa T s.m h' A V):
  aN P E T X {r:=De d s.tick v s.r,b:=rK d s.tick v (bk s.b d),tick:=s.tick+1,h:=h',hv:=MH,m:=s.m} {q.cv d c with a:=A,u:=V}:=by
 have hl:=c7 hb;have FO:∀d',kX s.b (rK d s.tick v (bk s.b d)) q.g q.g s.tick d':=λd'=>by
  by_cases e:d=d'
  ·right;left;rw[eI,aF,ap e];rfl
  ·cases oD:ao s.b d' with
   |none=>right;left;rw[eI,aF,ai e,oD];rfl|some x=>
    obtain⟨st,x⟩:=x;cases x with
    |aT t e' ys=>left;rw[eI,aF,ai e,oD];exact ⟨rfl,rfl⟩|cells u rs=>
     right;right;left;refine⟨rfl,st,u,rs,?_⟩;rw[eI,aF,ai e,oD];simp only[bQ];split
     ·exact ⟨_,_,_,trivial,rfl⟩
     ·exact ⟨_,_,_,trivial,rfl⟩
 have one:∀r u,bn P E T s.b q.g s.tick r u->bn P E T (rK d s.tick v (bk s.b d)) q.g (s.tick+1) (zJ d v r) (ju d (q.g d) c u):=by
  intro r u hr;have Gu:∀d' jh t' e' om,ao (rK d s.tick v (bk s.b d)) d'=some (jh,.aT t' e' om)->d'≠d/\ao s.b d'=some (jh,.aT t' e' om):=λd' jh t' e' om dZ=>by
   by_cases hd:d=d'
   ·rw[eI,aF,ap hd]at dZ;cases dZ
   ·rw[eI,aF,ai hd]at dZ;refine⟨c5 hd,?_⟩;cases Sm:ao s.b d' with
    |none=>rw[Sm]at dZ;cases dZ
    |some x=>
     obtain⟨st2,x⟩:=x;rw[Sm]at dZ;cases x with
     |aT t e' ys=>simpa using dZ|cells u rs=>simp only[bQ]at dZ;split at dZ<;>simp at dZ
  have abg:∀d' jh u' yR,ao (rK d s.tick v (bk s.b d)) d'=some (jh,.cells u' yR)->∃st u rs,ao s.b d'=some (st,.cells u rs):=λd' jh u' yR dZ=>by
   by_cases hd:d=d'
   ·rw[eI,aF,ap hd]at dZ;cases dZ
   ·rw[eI,aF,ai hd]at dZ;cases Sm:ao s.b d' with
    |none=>rw[Sm]at dZ;cases dZ
    |some x=>
     obtain⟨st2,x⟩:=x;rw[Sm]at dZ;cases x with
     |aT t e' ys=>simp at dZ|cells u rs=>exact ⟨_,_,_,rfl⟩
  have h2:=hr.mono (bx':=rK d s.tick v (bk s.b d)) (g':=q.g) (λd2 _=>FO d2) (cL _);cases hr with
  |whole d' _ hq=>
   by_cases hd:d'=d
   ·subst hd;have:=hq _ _ _ _ hl;subst this;simp only[zJ,bp,ju,and_self,hc];exact hv _ _ _
   ·simp only[zJ,ai hd];refine .whole _ _ λjh t' e' om dZ=>?_;have:=hq _ _ _ _ (Gu _ _ _ _ _ dZ).2;subst this;simp[ju,hd]
  |none=>exact .none _|val t x _ av hq hv=>simp only[zJ];rw[DH hq];exact h2
  |const w hw=>simp only[zJ];rw[Be];exact h2|loc d' k _ hq=>refine .loc d' k _ λst u rs dZ=>?_;obtain⟨_,_,_,Sm⟩:=abg _ _ _ _ dZ;rw[hq _ _ _ Sm];rfl
  |gl d' i k mn t x _ JJ hq=>refine .gl d' i k mn t x _ (by omega) λst t' e xs dZ=>?_;obtain⟨q1,q2,q3⟩:=hq _ _ _ _ (Gu _ _ _ _ _ dZ).2;rw[q1];exact⟨rfl,q2,q3⟩|sub d' off m _ hq=>refine .sub d' off m _ λst t' e xs dZ=>?_;have hbk:=Gu _ _ _ _ _ dZ;obtain⟨q1,q2⟩:=hq _ _ _ _ hbk.2;rw[q1];exact⟨by simp[ju,hbk.1],q2⟩
  |_=>exact h2
 refine⟨λt=>?_,λd'=>?_,λt st x hx=>?_,λd' st x hx=>?_,hH,h.df⟩
 ·have h1:=one _ _ (h.cr t);rw[S.look_eq]at h1⊢;rw[rR];cases E4:ao s.r t with
  |none=>exact .none _|some x=>
   obtain⟨st,x⟩:=x;rw[E4]at h1;simp only[bQ]at h1⊢;cases x with
   |whole d'=>
    simp only[zJ]at h1;by_cases hd:d'=d
    ·simp only[hd,bp]at h1⊢;exact h1
    ·simp only[hd,bY]at h1⊢;exact h1
   |_=>exact h1
 ·have h1:=h.boxes d';rw[eI,aF];by_cases hd:d=d'
  ·rw[ap hd];trivial
  ·rw[ai hd];cases dZ:ao s.b d' with
   |none=>trivial|some x=>
    obtain⟨st,x⟩:=x;rw[dZ]at h1;have hq:({q.cv d c with a:=A,u:=V}:St).b d'=(q.b d').map (To d (q.g d) c):=by simp[St.cv,Q1,c5 hd]
    rw[hq];cases x with
    |aT t e' ys=>obtain⟨h2,h3⟩:=h1;simp only[bQ];exact⟨h2,by rw[h3];rfl⟩|cells u rs=>
     obtain⟨h2,h3,cs,h4,h5,h6⟩:=h1;have h7:∀(i:Nat)(r:R U.C)(c':br),(rs.map (zJ d v))[i]?=some r->(cs.map (ju d (q.g d) c))[i]?=some c'->bn P E T (rK d s.tick v (bk s.b d)) q.g (s.tick+1) r c':=λi r c' hr kA=>by simp only[dd,ck]at hr kA;obtain⟨r0,Q2,rfl⟩:=hr;obtain⟨c0,Fc,rfl⟩:=kA;exact one _ _ (h6 i r0 c0 Q2 Fc)
     have h8:cF d rs=false->rs.map (zJ d v)=rs:=λhm=>by
      have:∀r∈rs,zJ d v r=id r:=λr hr=>by
       have:=eo.1 hm r hr;cases r with
       |whole d'=>
        simp only[zJ];have dA:¬d'=d:=λe=>by subst e;simp[R.mentions]at this
        rw[ai dA];rfl
       |_=>rfl
      exact(xr this).trans (Kt rs)
     simp only[bQ];cases hm:cF d rs with
     |true=>simp only[bp];refine⟨h2,by rw[tI];simpa using h3,_,by rw[h4];rfl,by rw[tI];simpa using h5,λi r c' hr kA=>?_⟩;rw[tI]at hr;exact h7 i r c' hr kA|false=>simp only[gB,bY];refine⟨h2,h3,_,by rw[h4];rfl,by simpa using h5,λi r c' hr kA=>?_⟩;rw[<-h8 hm]at hr;exact h7 i r c' hr kA
 ·simp only[rR,ck]at hx;obtain⟨⟨jh,x'⟩,h1,h2⟩:=hx;have h3:=h.Ci t jh x' h1;show st<s.tick+1;cases x' with
  |whole d'=>
   simp only at h2;split at h2
   ·simp only[aS]at h2;omega
   ·simp only[aS]at h2;omega
  |_=>simp only[aS]at h2;omega
 ·simp only[eI,aF,ck]at hx;obtain⟨⟨jh,x'⟩,h1,h2⟩:=hx;show st<s.tick+1;split at h1
  ·cases h1
  ·have h3:=h.Fw d' jh x' h1;cases x' with
   |aT t e ys=>simp only[aS]at h2;omega|cells u rs=>
    simp only at h2;split at h2
    ·simp only[aS]at h2;omega
    ·simp only[aS]at h2;omega
end
section
variable{P:Program}{E:Env}{U:cm}{T:da U.C}{X:Ctx U}{w0:World}{I0:Cells}{n:Nat}{o:Oper}{s:S U.C}{q:St}{α:Type}{out:α}
variable(L:Lawful U T)
theorem Rb{x:Operand}(h:s.ev x=.whole d):∃t,x=.tmp t/\s.look t=.whole d:=by
 cases x with
 |tmp t=>exact ⟨t,rfl,h⟩|const v=>cases h
 |global g=>cases h
 |func f=>cases h
theorem Ku(d:Nat)(c:Nat->Nat->Option AV)(A:Nat->Option Ob)(V:Nat->Bool):mE q {q.cv d c with a:=A,u:=V}:=.abf λt av h=>by show bh (ju d (q.g d) c (q.r t))=some av;rw[DH h];exact h
theorem Gv(d:Nat)(c:Nat->Nat->Option AV):mE q (q.cv d c):=Ku d c q.a q.u
theorem jR{l:List (Nat×Nat×β)}{d':Nat}(h:ao l d'=none):ao (bk l d) d'=none:=by
 rw[aF];split
 ·rfl
 ·exact h
theorem aN.TM {s:S U.C} {q:St} (h:aN P E T X s q) (hl:s.look t0=.whole d) (u:br) {h':U.C 0} (hH:fa T s.m h' A V):
  aN P E T X {r:=s.r,b:=bk s.b d,tick:=s.tick+1,h:=h',hv:=hv,m:=s.m} {q with r:=bF q.r t0 u,b:=bF q.b d none,a:=A,u:=V}:=by
 have hk:∀d',kX s.b (bk s.b d) q.g q.g s.tick d':=λd'=>by
  by_cases e:d=d'
  ·right;left;rw[aF,ap e]
  ·left;rw[aF,ai e];exact ⟨rfl,rfl⟩
 refine⟨λt=>?_,λd'=>?_,λt st x hx=>Ik (h.Ci t st x hx),λd' st x hx=>?_,hH,h.df⟩
 ·have h1:=(h.cr t).mono (λd' _=>hk d') (cL _);by_cases ht:t=t0
  ·subst ht;have jq:S.look (C:=U.C) {r:=s.r,b:=bk s.b d,tick:=s.tick+1,h:=h',hv:=hv,m:=s.m} t=.whole d:=hl;rw[jq];exact .whole d _ λst t e xs hb=>by simp[aF]at hb
  ·simp only[ay _ _ ht];exact h1
 ·by_cases e:d=d'
  ·subst e;simp[aF,pI]
  ·have h1:=(h.boxes d').mono (λ_ _ _ d2 _=>hk d2) (cL _);simpa only[aF,ai e,ay _ _ (c5 e)]using h1
 ·simp only[aF]at hx;split at hx
  ·cases hx
  ·exact Ik (h.Fw d' st x hx)
theorem DG.TM {s:S U.C} {q:St} {gg len:Nat} (Sn:q.r t0=.view d gg off len) {b:B U.C} (hb:s.box d=some b) (u:br) (hA:∀k i,k<U.nk->s.m k=false->A (dk k i)=q.a (dk k i)/\V (dk k i)=q.u (dk k i)):
  DG s q {q with r:=bF q.r t0 u,b:=bF q.b d none,a:=A,u:=V}:=by
 refine⟨λt=>?_,λd' fF=>?_,rfl,hA,rfl,.Ks _ _⟩
 ·by_cases ht:t=t0
  ·subst ht;exact .inr ⟨d,gg,off,len,Sn,by rw[c7 hb];simp,bA _ _ _⟩
  ·exact .inl (ay _ _ ht)
 ·refine ay _ _ λe=>?_;subst e;rw[c7 hb]at fF;cases fF
theorem Iq{s:S C}{tk':Nat}{v:R C}{b:List (Nat×Nat×B C)}{h:C 0}(hy:kB (s.ev y)=false):S.ev {r:=De d tk v s.r,b:=b,tick:=tk',h:=h,hv:=hv,m:=m} y=s.ev y:=by
 cases y with
 |tmp t=>
  simp only[S.ev]at hy⊢;rw[S.look_eq]at hy⊢;rw[S.look_eq];simp only[rR];cases hl:ao s.r t with
  |none=>rfl|some e=>obtain⟨st,x⟩:=e;rw[hl]at hy;cases x<;>first|rfl|cases hy
 |_=>rfl
structure aen(P:Program)(E:Env)(T:da U.C)(X:Ctx U)(w0:World)(I0:Cells)(n:Nat)(fz:Bool)(s s':S U.C)(x:Operand)(t:Ty)(v:den U.C t)(q q':St)(av:AV):Prop where
 qi:j6 P E w0 I0 n q q'
 rel:aN P E T X s' q'
 E7:bh (q'.ev x)=some av
 Fz:mT P E T t v av
 keeps:mE q q'
 fr:fz=false->DG s q q'
 still:kB (s.ev x)=false->q'=q/\s'=s
include L in
theorem nu(hX:bG P E T X)(hE:(∃k,s.m k=true)->E.fixed=false){fz:Bool}{x:Operand}(hx:bI x=true){k:S U.C->den U.C t->Option α}(h:S.val fz s (s.ev x) t k=some out):
  ∃s' v,k s' v=some out/\bu s s'/\(∀d,ao s.b d=none->ao s'.b d=none)/\(∀y,kB (s.ev y)=false->s'.ev y=s.ev y)/\∀q,aN P E T X s q->∃q' av,aen P E T X w0 I0 n fz s s' x t v q q' av:=by
 unfold S.val at h;split at h
 ·rename_i d hd;obtain⟨t0,rfl,OY⟩:=Rb hd;split at h
  ·rename_i t' e xs hb;have Nl:∀q,aN P E T X s q->q.r t0=.view d (q.g d) 0 xs.length:=λq hS=>by have:=hS.cr t0;rw[OY]at this;exact fh hS this hb
   split at h
   ·
    rename_i m k;split at h
    ·rename_i l hl;cases hem:(U.em m&&(fz&&xs.isEmpty))with
     |true=>
      rw[hem]at h;simp only[aD]at hem;obtain⟨_,rfl,L2⟩:=hem;obtain rfl:xs=[]:=List.isEmpty_iff.1 L2;simp only[ba]at h;have Cj:U.ak m=.aT t' e:=qX hl;refine⟨_,_,h,Bd _ _ _ _,λd' fF=>?_,λy hy=>Iq hy,λq hS=>?_⟩
      ·show ao (rK _ _ _ (bk s.b d)) d'=none;rw[eI,jR fF];rfl
      ·obtain ⟨hU,hq⟩:=hS.aT hb;have je:=hX.ty _ _ hU;have hz:T.hz m=P.cellsOf e:=by rw[L.hz m t' e Cj,je.cells]
       have Sn:=Nl q hS;refine⟨q.cv d (rI (dk m l.length) (P.cellsOf e)),.view (dk m l.length) (P.cellsOf e) 0,⟨λa w hr=>MX hq hr,?_,?_,⟨rfl,by simp[enc,jA,hz]⟩,Gv d _,(λh=>by cases h),λh=>by rw[hd]at h;cases h⟩⟩
       ·exact hS.cnv (c:=rI (dk m l.length) (P.cellsOf e)) hb rfl (λbx g tick=>.val (.hs m) _ _ _ rfl ⟨rfl,by simp[enc,jA,hz]⟩) hS.heap
       ·show bh (ju d (q.g d) _ (q.r t0))=_;rw[Sn];simp[ju,bh,rI]
     |false=>
     rw[hem]at h;simp only[bc]at h;obtain⟨_,abh,h⟩:=bind_some h;have abh:=dx abh;have dA:xs≠[]:=by intro e;subst e;cases abh
     split at h
     ·rename_i h' jV;obtain⟨⟨hm,hk⟩,hg⟩:=zH hl;obtain⟨_,hs⟩:=rQ jV;have hEf:=hE ⟨m,hm⟩;have Cj:U.ak m=.aT t' e:=qX hl;have h:k (bif fz then s.Ka d m (some (l.length,xs.length)) h' else s.HY d h') (some (l.length,xs.length))=some out:=h;have ahY:∀d',ao s.b d'=none->ao (bif fz then s.Ka d m (some (l.length,xs.length)) h' else s.HY d h').b d'=none:=λd' fF=>by
       cases fz with
       |true=>show ao (rK _ _ _ (bk s.b d)) d'=none;rw[eI,jR fF];rfl|false=>exact jR fF
      refine⟨_,_,h,by cases fz;exact Il _ _;exact Bd _ _ _ _,ahY,λy hy=>by cases fz with|true=>exact Iq hy|false=>cases y<;>rfl,λq hS=>?_⟩;obtain⟨hU,hq⟩:=hS.aT hb;have je:=hX.ty _ _ hU;obtain⟨p1,p2,p3⟩:=hS.heap.push L hk hm hg hs;have hz:T.hz m=P.cellsOf e:=by rw[L.hz m t' e Cj,je.cells]
      have Sn:=Nl q hS;have Nk:xs.map (enc T t')≠[]:=by simpa using dA
      have hHR:fa T s.m h' (bF q.a (dk m l.length) (some (.aT e (xs.map (enc T t'))))) (bF q.u (dk m l.length) true):=p3 (bF q.u (dk m l.length) true) (λj hj=>ay _ _ hj);cases fz with
      |true=>
       refine⟨_,.view (dk m l.length) (P.cellsOf e) xs.length,⟨λa w hr=>Q3 hEf hq p2 Nk hr,?_,?_,⟨rfl,by simp[enc,jA,hz]⟩,Ku d _ _ _,(λh=>by cases h),λh=>by rw[hd]at h;cases h⟩⟩
       ·exact hS.cnv (c:=rI (dk m l.length) (P.cellsOf e)) hb rfl (λbx g tick=>.val (.hs m) _ _ _ rfl ⟨rfl,by simp[enc,jA,hz]⟩) hHR
       ·show bh (ju d (q.g d) _ (q.r t0))=_;rw[Sn];simp[ju,bh,rI]
      |false=>
       refine⟨_,.view (dk m l.length) (P.cellsOf e) xs.length,⟨λa w hr=>MY hEf t0 (by rw[Sn]) rfl hq p2 Nk hr,?_,?_,⟨rfl,by simp[enc,jA,hz]⟩,.abf λt av h=>?_,λ_=>?_,λh=>by rw[hd]at h;cases h⟩⟩
       ·exact hS.TM OY _ hHR
       ·simp[St.ev,bh]
       ·by_cases ht:t=t0
        ·subst ht;rw[Sn]at h;cases h
        ·simpa only[ay _ _ ht]using h
       ·refine DG.TM Sn hb _ λk' i' fM oF=>?_;have dA:dk k' i'≠dk m l.length:=λe=>by have:=(iO L fM hk e).1;subst this;rw[hm]at oF;cases oF
        exact⟨ay _ _ dA,ay _ _ dA⟩
     ·cases h
    ·cases h
   ·
    rename_i t k hnh;cases fz with
    |false=>cases h
    |true=>
     simp only[ba]at h;split at h
     ·rename_i v hv;obtain⟨e',rfl⟩:=bH hv;subst e';refine⟨_,_,h,x7 _ _ _,λd' fF=>?_,λy hy=>Iq hy,λq hS=>?_⟩
      ·show ao (rK _ _ _ (bk s.b d)) d'=none;rw[eI,jR fF];rfl
      ·obtain ⟨hU,hq⟩:=hS.aT hb;have je:=hX.ty _ _ hU;have Sn:=Nl q hS;refine⟨q.cv d λoff len=>some (.sl (((xs.map (enc T t')).drop off).take len)),.sl (xs.map (enc T t')),⟨λa w hr=>vP hq hr,?_,?_,⟨je.ok,rfl⟩,Gv d _,(λh=>by cases h),λh=>by rw[hd]at h;cases h⟩⟩
       ·exact hS.cnv (c:=λoff len=>some (.sl (((xs.map (enc T t')).drop off).take len))) hb (av:=.sl (xs.map (enc T t'))) (by simp[cV]) (λbx g tick=>.val (.list t') xs _ _ rfl ⟨je.ok,rfl⟩) hS.heap
       ·simp only[St.ev,St.cv,Sn];simp[ju,bh,cV]
     ·cases h
  ·cases h
 ·split at h
  ·rename_i v hv;refine⟨_,_,h,.refl s,λ_ h=>h,λ_ _=>rfl,λq hS=>?_⟩;obtain⟨av,h1,h2⟩:=po (hS.ev x hx) hv;exact⟨q,av,.refl q,hS,h1,h2,.refl q,λ_=>.refl s q,λ_=>⟨rfl,rfl⟩⟩
  ·cases h
end
section
variable{P:Program}{E:Env}{U:cm}{T:da U.C}{X:Ctx U}{w0:World}{I0:Cells}{n:Nat}{o:Oper}{s:S U.C}{q:St}{α:Type}{out:α}{fz:Bool}{kx:tz U->S U.C->Option α}{K:S U.C->Option α}{esc:List (Nat×Nat)}
variable(L:Lawful U T)
structure Fr(X:Ctx U)(s:S U.C)(o:Oper)(q q1:St):Prop where
 r:∀t,o.dst≠some t->t∉iy o->q1.r t=q.r t∨∃d gg off len,q.r t=.view d gg off len/\ao s.b d≠none/\(q1.b d=none∨d∈dS o)
 b:∀d,ao s.b d=none->d∉dS o->q1.b d=q.b d/\q1.g d=q.g d
 a:∀k i,k<U.nk->s.m k=false->q1.a (dk k i)=q.a (dk k i)/\q1.u (dk k i)=q.u (dk k i)
 df:q1.df=q.df
 ev:∀d,d∉dS o->Ip (q.b d) (q1.b d)/\q1.g d=q.g d
 still:turns X s o.op=false->q1.b=q.b/\q1.g=q.g/\q1.a=q.a/\q1.u=q.u/\∀t,o.dst≠some t->q1.r t=q.r t
inductive dQ(P:Program)(E:Env)(T:da U.C)(X:Ctx U)(w0:World)(I0:Cells)(n:Nat)(fz:Bool)(o:Oper)(s:S U.C)(kx:tz U->S U.C->Option α)(K:S U.C->Option α)(out:α):Prop
 |one (s1:S U.C) (hK:K s1=some out) (hm:bu s s1) (h:∀q,aN P E T X s q->Sound P E w0 I0 n o q λq1=>aN P E T X s1 q1/\(fz=false->Fr X s o q q1))
 |two (hf:fz=true) (s1 s2:S U.C) (h1:K s1=some out) (h2:K s2=some out) (m1:bu s s1) (m2:bu s s2) (h:∀q,aN P E T X s q->Sound P E w0 I0 n o q λq1=>aN P E T X s1 q1∨aN P E T X s2 q1)
 |cG (p:tz U) (s1:S U.C) (hK:kx p s1=some out) (hm:bu s s1) (h:∀q,aN P E T X s q->fg p.t=true/\kH P E w0 I0 n o q (λ_=>False) λav q1=>aN P E T X s1 q1/\av=.mI p.tid (enc T p.t p.x))
theorem bS{r:R U.C}(hK:K (s.put o.dst r)=some out)(h:L5 P E T X w0 I0 n o s r):dQ P E T X w0 I0 n fz o s kx K out:=by
 refine .one _ hK (bd _ _) λq hS=>?_;obtain⟨u,h1,h2⟩:=h q hS;refine gI u ⟨hS.put o.dst h2,λ_=>?_⟩ h1;cases hd:o.dst with
 |none=>exact ⟨λt ht _=>.inl rfl,λd _ _=>⟨rfl,rfl⟩,λ_ _ _ _=>⟨rfl,rfl⟩,rfl,λ_ _=>⟨.refl _,rfl⟩,λ_=>⟨rfl,rfl,rfl,rfl,λ_ _=>rfl⟩⟩|some d=>have hr:∀t,o.dst≠some t->bF q.r d u t=q.r t:=λt ht=>ay _ _ λe=>ht (by rw[hd,e]);exact⟨λt ht _=>.inl (hr t ht),λd _ _=>⟨rfl,rfl⟩,λ_ _ _ _=>⟨rfl,rfl⟩,rfl,λ_ _=>⟨.refl _,rfl⟩,λ_=>⟨rfl,rfl,rfl,rfl,hr⟩⟩
theorem Xr(ax:aJ n o=true){x:Operand}(ho:o.op=.move x)(hK:K (s.put o.dst (s.ev x))=some out):dQ P E T X w0 I0 n fz o s kx K out:=by refine bS hK (mC ax λq hS=>?_);unfold ff;simp only[ho];exact hS.fH ax (by simp[ho,Op.operands])
theorem Xs(hX:bG P E T X)(ax:aJ n o=true){c a b:Operand}(ho:o.op=.pick c a b)(h:iJ X kx esc fz o s K=some out):dQ P E T X w0 I0 n fz o s kx K out:=by
 have hc:c∈o.op.operands:=by simp[ho,Op.operands]
 have ha:a∈o.op.operands:=by simp[ho,Op.operands]
 have hb:b∈o.op.operands:=by simp[ho,Op.operands]
 unfold iJ at h;simp only[ho]at h;split at h
 ·rename_i qb t WC ht;split at h
  ·rename_i va vb hva hvb;refine bS h (mC ax λq hS=>?_);unfold ff;simp only[ho,mU (hS.fH ax hc) WC];cases qb with
   |true=>exact Gn (hS.fH ax ha) hva|false=>exact Gn (hS.fH ax hb) hvb
  ·cases qb with
   |true=>simp only[ba]at h;refine bS h (mC ax λq hS=>?_);unfold ff;simp only[ho,mU (hS.fH ax hc) WC];exact hS.fH ax ha|false=>simp only[bc]at h;refine bS h (mC ax λq hS=>?_);unfold ff;simp only[ho,mU (hS.fH ax hc) WC];exact hS.fH ax hb
 ·cases h
theorem Sound.weaken {q:St} {K:St->Prop} (h:Sound P E w0 I0 n o q K) (hk:∀q1,K q1->∃q2,j6 P E w0 I0 n q1 q2/\K' q2):Sound P E w0 I0 n o q K':=λa w hR Qc=>lO (λa' w' ⟨q1,g1,g2⟩=>by obtain⟨q2,g3,g4⟩:=hk q1 g2;exact⟨q2,g3 a' w' g1,g4⟩) (h a w hR Qc)
theorem Xt(f:Nat->β)(d:Nat)(x y:β):bF (bF f d x) d y=bF f d y:=by funext z;unfold bF;split<;>rfl
theorem Gw{r:R U.C}(hK:K (s.put o.dst (Dp r))=some out)(h:L5 P E T X w0 I0 n o s r):dQ P E T X w0 I0 n fz o s kx K out:=by
 cases r with
 |emp t=>
  refine .one _ hK (bd _ _) λq hS=>?_;obtain⟨u,h1,h2⟩:=h q hS;cases h2 with
  |emp _ ho=>
   refine Sound.weaken (gI (.val .emp) (K:=λq1=>q1=q.put o.dst (.val .emp)) rfl h1) λq1 e1=>?_;subst e1;refine⟨q.put o.dst (.full []),?_,hS.put o.dst (.full t [] ho),λ_=>?_⟩
   ·cases hd:o.dst with
    |none=>exact .refl _|some d=>intro a w hR;have:=OE (s:=q.put (some d) (.val .emp)) d (bA _ _ _) hR;simpa only[St.qw,Xt]using this
   ·cases hd:o.dst with
    |none=>exact ⟨λt ht _=>.inl rfl,λd _ _=>⟨rfl,rfl⟩,λ_ _ _ _=>⟨rfl,rfl⟩,rfl,λ_ _=>⟨.refl _,rfl⟩,λ_=>⟨rfl,rfl,rfl,rfl,λ_ _=>rfl⟩⟩|some d=>have hr:∀t,o.dst≠some t->bF q.r d (.full []) t=q.r t:=λt ht=>ay _ _ λe=>ht (by rw[hd,e]);exact⟨λt ht _=>.inl (hr t ht),λd _ _=>⟨rfl,rfl⟩,λ_ _ _ _=>⟨rfl,rfl⟩,rfl,λ_ _=>⟨.refl _,rfl⟩,λ_=>⟨rfl,rfl,rfl,rfl,hr⟩⟩
 |_=>exact bS hK h
theorem Sound.aeo {q:St} {K:St->Prop} (h:Sound P E w0 I0 n o q K) (hk:∀q,K q->K' q):Sound P E w0 I0 n o q K':=λa w hR Qc=>lO (λa' w' ⟨q',g1,g2⟩=>⟨q',g1,hk q' g2⟩) (h a w hR Qc)
theorem dQ.weaken {s s':S U.C} (hL:bu s s') (hw:∀q,aN P E T X s q->∃q',j6 P E w0 I0 n q q'/\aN P E T X s' q') (h:dQ P E T X w0 I0 n true o s' kx K out):dQ P E T X w0 I0 n true o s kx K out:=by
 cases h with
 |one s1 hK hm h=>refine .one s1 hK (hL.trans hm) λq hS=>?_;obtain⟨q',h1,h2⟩:=hw q hS;exact h1.sound (Sound.aeo (h q' h2) λq1 g=>⟨g.1,λhf=>by cases hf⟩)
 |two hf s1 s2 h1 h2 m1 m2 h=>refine .two hf s1 s2 h1 h2 (hL.trans m1) (hL.trans m2) λq hS=>?_;obtain⟨q',g1,g2⟩:=hw q hS;exact g1.sound (h q' g2)|cG p s1 hK hm h=>refine .cG p s1 hK (hL.trans hm) λq hS=>?_;obtain⟨q',g1,g2⟩:=hw q hS;obtain⟨h3,h4⟩:=h q' g2;exact⟨h3,g1.Nj h4⟩
theorem x8(hX:bG P E T X):∀(rs:List (R U.C))(fz:Bool)(s:S U.C),Gj fz rs s K=some out->∃s',K s'=some out/\bu s s'/\(fz=false->s'=s)/\(∀y,kB (s.ev y)=false->s'.ev y=s.ev y)/\∀q,aN P E T X s q->∃q',j6 P E w0 I0 n q q'/\aN P E T X s' q'
 |[],fz,s,h=>⟨s,h,.refl s,λ_=>rfl,λ_ _=>rfl,λq hS=>⟨q,.refl q,hS⟩⟩|r::rs,fz,s,h=>by
  cases r with
  |whole d=>
   simp only[Gj]at h;split at h
   ·rename_i t e xs hb;cases fz with
    |false=>cases h
    |true=>
     simp only[ba]at h;obtain⟨s',h1,h2,h3,h4,h5⟩:=x8 hX rs true _ h;refine⟨s',h1,(x7 d t xs).trans h2,(λhf=>by cases hf),λy hy=>?_,λq hS=>?_⟩
     ·have e1:(s.freeze d t xs).ev y=s.ev y:=Iq hy;rw[h4 y (by rw[e1];exact hy),e1]
     ·obtain ⟨hU,hq⟩:=hS.aT hb;have je:=hX.ty _ _ hU;have Gx:aN P E T X (s.freeze d t xs) (q.cv d λoff len=>some (.sl (((xs.map (enc T t)).drop off).take len))):=
       hS.cnv (c:=λoff len=>some (.sl (((xs.map (enc T t)).drop off).take len))) hb (av:=.sl (xs.map (enc T t))) (by simp[cV]) (λbx g tick=>.val (.list t) xs _ _ rfl ⟨je.ok,rfl⟩) hS.heap
      obtain⟨q',g1,g2⟩:=h5 _ Gx;exact⟨q',j6.trans (λa w hr=>vP hq hr) g1,g2⟩
   ·cases h
  |_=>exact x8 hX rs fz s h
include L in
theorem TN(hX:bG P E T X)(ax:aJ n o=true){x:Operand}(ho:o.op=.load e x)(ht:X.ty e=some t)(h:(Tz fz s t (s.ev x) λs=>Dg X s t (s.ev x) λr=>K (s.put o.dst (Dp r)))=some out):dQ P E T X w0 I0 n fz o s kx K out:=by
 have plain:∀s:S U.C,(Dg X s t (s.ev x) λr=>K (s.put o.dst (Dp r)))=some out->dQ P E T X w0 I0 n fz o s kx K out:=λs h=>by obtain⟨r,h1,h2⟩:=TI L hX (hX.ty _ _ ht) h;refine Gw h1 (Gq ax λq hS=>?_);exact(h2 q _ hS (hS.fH ax (by simp[ho,Op.operands]))).value ho
 unfold Tz at h;split at h
 ·rename_i d k hp;split at h
  ·cases mK:aL t with
   |false=>rw[mK]at h;exact plain s h|true=>
    rw[mK]at h;simp only[ba]at h;obtain⟨s',h1,h2,h3,h4,h5⟩:=x8 (P:=P) (E:=E) (T:=T) (w0:=w0) (I0:=I0) (n:=n) hX _ fz s h;have e1:s'.ev x=s.ev x:=h4 x (by rw[hp];rfl);cases fz with
    |false=>rw[h3 rfl]at h1;exact plain s h1|true=>exact dQ.weaken h2 h5 (plain s' h1)
  ·cases h
 ·exact plain s h
theorem DI{bx:List (Nat×Nat×B U.C)}{g:Nat->Nat}{tick:Nat}:∀{rs:List (R U.C)}{cs:List br},dL P E T bx g tick rs cs->rs.all Q7=true->∃aX,cR cs=some aX/\rs.length=aX.length/\(∀(i:Nat)(r:R U.C)(av:AV),rs[i]?=some r->aX[i]?=some av->bn P E T bx g tick r (.val av))/\∀(i:Nat)(av:AV),aX[i]?=some av->av.isAgg=false
 |[],[],_,_=>⟨[],rfl,rfl,λi r av h=>by simp at h,λi av h=>by simp at h⟩|[],_::_,h,_=>by have:=h.1;simp at this
 |_::_,[],h,_=>by have:=h.1;simp at this|r::rs,c::cs,h,ha=>by
  simp only[vi,aD]at ha;obtain⟨aX,h1,h2,h3,h4⟩:=DI (rs:=rs) (cs:=cs) ⟨by simpa using h.1,λi r c hr hc=>h.2 (i+1) r c (by simpa using hr) (by simpa using hc)⟩ ha.2;have h0:=h.2 0 r c rfl rfl;have hc:=ha.1;have hd:∃av,c=.val av/\av.isAgg=false:=by
   cases h0 with
   |fn f caps aX _ _=>exact ⟨_,rfl,rfl⟩|nz f caps aX _ _=>exact ⟨_,rfl,rfl⟩
   |_=>cases hc
  obtain⟨av0,rfl,ah0⟩:=hd;refine⟨av0::aX,by simp[cR,bh,h1],by simp[h2],λi r' av hr eS=>?_,λi av eS=>?_⟩
  ·cases i with
   |zero=>simp at hr eS;subst hr eS;exact h0|succ i=>exact h3 i r' av (by simpa using hr) (by simpa using eS)
  ·cases i with
   |zero=>simp at eS;subst eS;exact ah0|succ i=>exact h4 i av (by simpa using eS)
include L in
theorem Xu(hX:bG P E T X)(ax:aJ n o=true){x:Operand}(ho:o.op=.load e x)(h:iJ X kx esc fz o s K=some out):dQ P E T X w0 I0 n fz o s kx K out:=by
 unfold iJ at h;simp only[ho]at h;split at h
 ·rename_i t ht;split at h
  ·rename_i rs m rP;have hT:=hX.ty _ _ ht;replace rP:=aq rP;obtain⟨_,rP⟩:=rP;unfold OP at rP;split at rP
   ·rename_i d k hp;split at rP
    ·rename_i u cells hb;replace rP:=aq rP;obtain⟨hc,rP⟩:=rP;simp only[aD,tJ]at hc;simp only[ah]at rP;subst rP;refine bS h (Gq ax λq hS=>?_);have hr:=hS.fH ax (x:=x) (by simp[ho,Op.operands]);rw[hp]at hr;obtain⟨_,_,cs,hq,sE⟩:=hS.cells hb;refine we.value ho (.inl ?_);rw[nt hS hr hb];unfold AS;simp only[hq,hT.agg,aL,rB,cS];rw[lV]at hc⊢;have h1:dL P E T s.b q.g s.tick ((cells.drop k).take (bj U D (.struct m))) ((cs.drop k).take (bj U D (.struct m))):=by
      have h2:=sE.drop k;exact⟨by simp[h2.1,sE.1],λi r c hr hc=>by
       rw[fZ]at hr hc;split at hr
       ·rename_i hi;rw[ap hi]at hc;exact h2.2 i r c hr hc
       ·cases hr⟩
     obtain⟨aX,a1,a2,a3,a4⟩:=DI h1 hc.2;rw[hT.cells,a1];have:=sE.1;exact⟨⟨trivial,by rw[<-hT.cells];exact hT.pos,by rw[xi];omega⟩,.agg m _ aX a2 a3 a4⟩
    ·cases rP
   ·cases rP
  ·exact TN L hX ax ho ht h
 ·split at h
  ·rename_i r hp;obtain⟨hf,h⟩:=aq h;obtain⟨h1,h2⟩:=hX.Tr e hf;refine bS h (Gq ax λq hS=>?_);have hr:=hS.fH ax (x:=x) (by simp[ho,Op.operands]);rw[hp]at hr;refine we.value ho (.inl ?_);generalize q.ev x=u at hr;cases hr with
   |sC _ av hr=>unfold AS jM;simp only[h2];exact⟨⟨by omega,by simp[h1]⟩,hr⟩
  ·cases h
theorem Ir(hX:bG P E T X)(ax:aJ n o=true){x:Operand}(ho:o.op=.fieldAddr e x f)(h:iJ X kx esc fz o s K=some out):dQ P E T X w0 I0 n fz o s kx K out:=by
 unfold iJ at h;simp only[ho]at h;split at h
 ·rename_i t ht;replace h:=aq h;obtain⟨jY,h⟩:=h;obtain⟨r,h1,h2⟩:=Fx (w0:=w0) (I0:=I0) hX (hX.ty _ _ ht) (by simpa using jY) ho ax h;exact bS h1 h2
 ·cases h
include L in
theorem Is(hX:bG P E T X)(ax:aJ n o=true){x:Operand}(ho:o.op=.indexAddr e x y)(h:iJ X kx esc fz o s K=some out):dQ P E T X w0 I0 n fz o s kx K out:=by
 unfold iJ at h;simp only[ho]at h;split at h
 ·rename_i m t el hm ht jk;obtain⟨r,h1,h2⟩:=Fy (w0:=w0) (I0:=I0) L hX (hX.ty _ _ ht) jk ho ax hm h;exact bS h1 h2
 ·rename_i m n' hm ht;replace h:=aq h;obtain⟨ha,h⟩:=h;obtain⟨el,jk⟩:=CG.1 ha;obtain⟨N,hu,hc,Jw,hN⟩:=hX.mq e el jk;obtain⟨hl,_,_⟩:=hN n' ht;have Kv:∀(k j:Nat),H9 s (s.ev x) m k j (λr=>K (s.put o.dst r))=some out->∃i r,i<k/\m=((j+i:Nat):Int)/\M6 s (j+i) (s.ev x)=some r/\K (s.put o.dst r)=some out:=by
   intro k;induction k with
   |zero=>intro j h;cases h
   |succ k ih=>
    intro j h;simp only[H9]at h;cases he:gK m (j:Int)with
    |true=>
     rw[he]at h;simp only[ba]at h;split at h
     ·rename_i r hr;exact⟨0,r,Nat.succ_pos _,by simpa[gK]using he,hr,h⟩
     ·cases h
    |false=>rw[he]at h;obtain⟨i,r,g1,g2,g3,g4⟩:=ih (j+1) h;exact⟨i+1,r,by omega,by rw[g2];congr 1;omega,by rw[<-g3];congr 1;omega,g4⟩
  obtain⟨i,r,g1,g2,g3,g4⟩:=Kv _ 0 h;rw[cS]at g2 g3;refine bS g4 λq hS=>?_;obtain⟨k,hk⟩:=lW (hS.fH ax (x:=y) (by simp[ho,Op.operands])) hm;have hr:=hS.fH ax (x:=x) (by simp[ho,Op.operands]);have hy:=λhx=>Dc (P:=P) (E:=E) (w0:=w0) (I0:=I0) (n:=n) (s:=q) ho ax hu hc hk (by omega) (by rw[g2];omega) hx;rw[show m.toNat=i by omega]at hy;generalize hxe:s.ev x=rx at hr g3;unfold M6 at g3;split at g3
  ·rename_i d k';split at g3
   ·rename_i u cells hb;simp only[ah]at g3;subst g3;have hq:=nt hS hr hb;obtain⟨_,_,cs,WC,_⟩:=hS.cells hb;refine⟨_,hy (.inr (.inl ⟨_,_,_,_,_,hq,rfl,by rw[WC];simp⟩)),?_⟩;rw[hq];exact .loc _ _ _ λst u yR oD=>rfl
   ·cases g3
  ·rename_i d i' k' mn te z;split at g3
   ·rename_i t' e' xs hb;simp only[ah]at g3;subst g3;cases hr with
    |gl _ _ _ _ _ _ _ JJ mi=>obtain⟨q1,q2,q3⟩:=mi _ _ _ _ (c7 hb);obtain⟨_,WC⟩:=hS.aT hb;refine⟨_,hy (.inr (.inl ⟨_,_,_,_,_,q1,rfl,by rw[WC];simp⟩)),?_⟩;rw[q1];refine .gl _ _ _ _ _ _ _ JJ λst t2 e2 xs2 dZ=>?_;have:=c7 hb;rw[dZ]at this;simp only[ah,aS,B.aT.injEq]at this;obtain⟨rfl,rfl,_,this⟩:=this;cases this;exact⟨rfl,q2,q3⟩
   ·cases g3
  ·rename_i te z k';simp only[ah]at g3;subst g3;generalize hq:q.ev x=u at hr hy;cases hr with
   |dn _ _ _ Xv=>refine⟨_,hy (.inl ⟨_,rfl⟩),?_⟩;simp only[Tq,Kl];exact .dn te z (k'+i) Xv
  ·simp only[ah]at g3;subst g3;generalize hq:q.ev x=u at hr hy;cases hr with
   |jZ k2 i2 off=>exact ⟨_,hy (.inr (.inr ⟨_,_,rfl⟩)),.jZ _ _ _⟩
  ·simp only[ah]at g3;subst g3;generalize hq:q.ev x=u at hr hy;cases hr with
   |jv k2 i2 j2 off=>refine⟨_,hy (.inr (.inr ⟨_,_,rfl⟩)),?_⟩;simp only[Tq,iU];exact .jv _ _ _ _
  ·cases g3
 ·rename_i m hm ht;split at h
  ·rename_i rs hp;obtain⟨hf,h⟩:=aq h;obtain⟨el,hu,_,hc⟩:=hX.M3 e hf;have Kv:∀(yR:List (R U.C))(j:Nat),OQ m yR j (λr=>K (s.put o.dst r))=some out->∃i r,yR[i]?=some r/\m=((j+i:Nat):Int)/\K (s.put o.dst (.sC r))=some out:=by
    intro yR;induction yR with
    |nil=>intro j h;cases h
    |cons r yR ih=>
     intro j h;simp only[OQ]at h;cases he:gK m (j:Int)with
     |true=>rw[he]at h;exact⟨0,r,rfl,by simpa[gK]using he,h⟩|false=>rw[he]at h;obtain⟨i,r',g1,g2,g3⟩:=ih (j+1) h;exact⟨i+1,r',by simpa using g1,by rw[g2];congr 1;omega,g3⟩
   obtain⟨i,r,g1,g2,g3⟩:=Kv rs 0 h;rw[cS]at g2;refine bS g3 (mC ax λq hS=>?_);obtain⟨k,hk⟩:=lW (hS.fH ax (x:=y) (by simp[ho,Op.operands])) hm;have hr:=hS.fH ax (x:=x) (by simp[ho,Op.operands]);rw[hp]at hr;unfold ff;simp only[ho];rw[hk];generalize q.ev x=u at hr;cases hr with
   |vc _ aX e1 e2 e3=>
    have hi:i<aX.length:=by rw[<-e1];exact (aV.1 g1).1
    have eS:=cq hi;have Jw:=e3 i _ eS;have n4:(aX[i]).cells=[aX[i]]:=by revert Jw;generalize aX[i]=z;intro Jw;cases z<;>first|rfl|cases Jw
    unfold jt;simp only[gn hu,g2,x9,eS];refine⟨⟨by omega,by omega,by rw[n4,hc];rfl⟩,?_⟩;rw[n4];exact .sC r _ (e2 i r _ g1 eS)
  ·cases h
 ·cases h
include L in
theorem TO(hX:bG P E T X)(ax:aJ n o=true){x:Operand}(ho:o.op=.field e x f)(h:iJ X kx esc fz o s K=some out):dQ P E T X w0 I0 n fz o s kx K out:=by
 unfold iJ at h;simp only[ho]at h;split at h
 ·rename_i m ht;replace ht:=aq ht;obtain⟨jY,ht⟩:=ht;have jY:X.mq e=none:=by simpa using jY
  split at h
  ·rename_i v off t hv uS;split at h
   ·rename_i v' j5;have hT:=hX.ty _ _ ht;obtain⟨fe,Qz,hft,WD,SN,hfp⟩:=hT.field jY m rfl f off t uS;refine bS h (mC ax λq hS=>?_);unfold ff;simp only[ho,Qz,uB (cs:=T.cl m v) (cX (hS.fH ax (by simp[ho,Op.operands])) hv rfl)];obtain⟨c1,c2⟩:=A8 L P E j5 hft rfl;exact A7 L WD SN hfp c1 c2 (K:=λu=>bn P E T s.b q.g s.tick (.val t v') (.val u)) (aY hft)
   ·cases h
  ·cases h
 ·cases h
include L in
theorem TP(hX:bG P E T X)(ax:aJ n o=true){x:Operand}(ho:o.op=.index e x y)(h:iJ X kx esc fz o s K=some out):dQ P E T X w0 I0 n fz o s kx K out:=by
 unfold iJ at h;simp only[ho]at h;split at h
 ·rename_i el jk;split at h
  ·rename_i n' m ht hm;obtain⟨N,hu,hc,Jw,hN⟩:=hX.mq e el jk;obtain⟨hl,hnc,hfs⟩:=hN n' ht;have Kv:∀(rs:List (R U.C))(j:Nat),Ia m rs j (λr=>K (s.put o.dst (Dp r)))=some out->∃i r,rs[i]?=some r/\m=((j+i:Nat):Int)/\K (s.put o.dst (Dp r))=some out:=by
    intro rs;induction rs with
    |nil=>intro j h;cases h
    |cons r rs ih=>
     intro j h;simp only[Ia]at h;cases he:gK m (j:Int)with
     |true=>rw[he]at h;exact⟨0,r,rfl,by simpa[gK]using he,h⟩|false=>rw[he]at h;obtain⟨i,r',g1,g2,g3⟩:=ih (j+1) h;exact⟨i+1,r',by simpa using g1,by rw[g2];congr 1;omega,g3⟩
   obtain⟨i,r,g1,g2,g3⟩:=Kv _ 0 h;rw[cS]at g2;refine Gw g3 λq hS=>?_;obtain⟨k,hk⟩:=lW (hS.fH ax (x:=y) (by simp[ho,Op.operands])) hm;have hr:=hS.fH ax (x:=x) (by simp[ho,Op.operands]);have n4:∃aX,q.ev x=.val (.agg aX)/\aX.length<=N/\∃av,aX[i]?=some av/\bn P E T s.b q.g s.tick r (.val av):=by
    generalize hxe:s.ev x=rx at hr g1;unfold Kg at g1;split at g1
    ·rename_i n2 rs;cases hnn:Nat.beq n2 n'&&Nat.beq rs.length (bj U D (.struct n'))with
     |false=>rw[hnn]at g1;simp at g1|true=>
      rw[hnn]at g1;simp only[ba]at g1;generalize hq:q.ev x=u at hr;cases hr with
      |agg _ _ aX e1 e2 e3=>
       simp only[aD]at hnn;have hln:=bM hnn.2;have hi:i<aX.length:=by rw[<-e1];exact (aV.1 g1).1
       exact⟨aX,rfl,by omega,_,cq hi,e2 i r _ g1 (cq hi)⟩
    ·split at g1
     ·rename_i v hv;have hq:=uB (cs:=T.cl n' v) (cX (t:=.struct n') hr hv rfl);have Gy:=iQ (P:=P) (E:=E) (T:=T) (bx:=s.b) (g:=q.g) (tick:=s.tick) L D (.struct n') v (iz L _) rfl;have sk:(enc T (.struct n') v).cells=T.cl n' v:=rfl;rw[sk]at Gy;have hlen:=Gy.1;rw[cM]at hlen;have hi:i<(T.cl n' v).length:=by rw[<-hlen];exact (aV.1 g1).1
      have ah1:=dP (T:=T) L (t:=.struct n') v;rw[sk]at ah1;exact⟨_,hq,by omega,_,cq hi,Gy.2 i r _ g1 (by rw[dd,cq hi];rfl)⟩
     ·simp at g1
   obtain⟨aX,h1,hlen,av,h2,h3⟩:=n4;have hi:i<aX.length:=(aV.1 h2).1;exact⟨_,Dd ho ax hu hc Jw hk (by omega) (by rw[g2];omega) h1 (by rw[show m.toNat=i by omega];exact h2),h3⟩
  ·cases h
 split at h
 ·rename_i v m ht hv hm;obtain⟨c,hc,h⟩:=bind_some h;obtain⟨h1,h2,h3⟩:=Ge hc;refine bS h (mC ax λq hS=>?_);obtain⟨k,hk⟩:=lW (hS.fH ax (x:=y) (by simp[ho,Op.operands])) hm;unfold ff;simp only[ho,dp (cX (hS.fH ax (x:=x) (by simp[ho,Op.operands])) hv rfl),hk];rw[h2];exact⟨⟨(hX.ty _ _ ht).str rfl,h1⟩,aY (t:=.int .u8) rfl⟩
 ·cases h
theorem Xw(hX:bG P E T X)(ax:aJ n o=true){uo:UnOp}{x:Operand}(ho:o.op=.unOp uo e x)(h:iJ X kx esc fz o s K=some out):dQ P E T X w0 I0 n fz o s kx K out:=by
 have hx:x∈o.op.operands:=by simp[ho,Op.operands]
 cases uo with
 |not=>
  unfold iJ at h;simp only[ho]at h;split at h
  ·rename_i b hb;refine bS h (mC ax λq hS=>?_);unfold ff;simp only[ho,mU (hS.fH ax hx) hb];exact aY (t:=.bool) rfl
  ·cases h
 |neg=>
  unfold iJ at h;simp only[ho]at h;split at h
  ·rename_i k ht;split at h
   ·rename_i m hm;refine bS h (mC ax λq hS=>?_);unfold ff;simp only[ho,dp (cX (hS.fH ax hx) hm rfl)];exact aY (t:=.int k) rfl
   ·cases h
  ·cases h
 |_=>unfold iJ at h;simp only[ho]at h;cases h
theorem Xx{r:R U.C}{m:Nat}(h:aa5 s r=some m)(hX:bG P E T X):∀q u,aN P E T X s q->bn P E T s.b q.g s.tick r u->(dV q u=some m/\∀v,u≠.val (.fl v))∨(∃i sz,u=.val (.view i sz m))∨(u=.val .emp/\m=0):=by
 intro q u hS hr;unfold aa5 at h;split at h
 ·rename_i t xs;simp only[ah]at h;subst h;left;cases hr with
  |val _ _ _ av hq hv=>obtain⟨_,rfl⟩:=hv;rcases qW (cs:=xs.map (enc T t)) hq with e|e<;>rw[e]<;>simp[dV]
 ·rename_i k p;simp only[ah]at h;subst h;right;cases hr with
  |val _ _ _ av hq hv=>
   obtain⟨_,rfl⟩:=hv;have hp:∃p':Option (Nat×Nat),p'=p:=⟨_,rfl⟩
   obtain⟨p',sS⟩:=hp;cases p' with
   |none=>subst sS;right;refine⟨?_,rfl⟩;cases u<;>simp[bh,enc,jA]at hq;rw[hq]
   |some z=>subst sS;left;refine⟨dk k z.1,T.hz k,?_⟩;cases u<;>simp[bh,enc,jA]at hq;rw[hq];rfl
 ·rename_i t xs;simp only[ah]at h;subst h;left;cases hr with
  |full _ _ ho=>simp[dV]
 ·rename_i v;left;cases hr with
  |const _ hc=>
   split at h
   ·simp only[ah]at h;subst h;exact ⟨rfl,λv h=>by cases h⟩
   ·cases h
 ·rename_i d;split at h
  ·rename_i t e xs hb;simp only[ah]at h;subst h;left;rw[fh hS hr hb];obtain⟨_,hq⟩:=hS.aT hb;simp[dV,hq]
  ·cases h
 ·cases h
theorem oa(hT:kL P E T X e (.list t)):∃el,P.underlying e=some (.slice el):=by obtain⟨el,h,_⟩:=hT.list t rfl;exact⟨el,h⟩
theorem Kw{m:Nat}{kt vt:Ty}{l:List (List (den U.C kt×den U.C vt))}{es:List (den U.C kt×den U.C vt)}(hl:maps U m kt vt s=some l)(hp:dW l p=some es){x:Operand}{r:R U.C}(hr:r=.val (.mp m) p):∀q,aN P E T X s q->bn P E T s.b q.g s.tick r (q.ev x)->
  (∃i c,q.ev x=.val (.mp i)/\q.a i=some (.map (es.map λp=>(enc T kt p.1,enc T vt p.2)) c))∨(q.ev x=.val (.fl (.map none))/\(es.map λp=>(enc T kt p.1,enc T vt p.2))=[]):=by
 intro q hS Se;subst hr;generalize q.ev x=u at Se;cases Se with
 |val _ _ _ av hq hv=>
  obtain⟨_,rfl⟩:=hv;have uq:∃p':Option Nat,p'=p:=⟨_,rfl⟩
  obtain⟨p',sS⟩:=uq;cases p' with
  |none=>subst sS;right;unfold dW at hp;simp only[ah]at hp;subst hp;refine⟨?_,rfl⟩;exact dp hq|some i=>subst sS;left;obtain⟨c,hc⟩:=Io hl hS hp;refine⟨dk m i,c,?_,hc⟩;cases u<;>simp[bh,enc,Dy]at hq;rw[hq]
theorem abi(hX:bG P E T X)(ax:aJ n o=true){x:Operand}{lt:TypeId}(ho:o.op=.call {callee:=.builtin .len,args:=#[x],argTypes:=#[lt]})(h:iJ X kx esc fz o s K=some out):dQ P E T X w0 I0 n fz o s kx K out:=by
 have hx:x∈o.op.operands:=by simp[ho,Op.operands,Call.operands]
 unfold iJ at h;simp only[ho]at h;split at h
 ·rename_i k ht;have hT:=hX.ty _ _ ht;split at h
  ·rename_i m p hp;obtain⟨hkm,h⟩:=aq h;split at h
   ·rename_i kt vt hk;split at h
    ·rename_i l hl;obtain⟨es,ZT,h⟩:=bind_some h;obtain⟨a,b,hu,_⟩:=hT.mp k rfl;refine bS h λq hS=>⟨_,HW ho ax hu (Kw hl ZT hp q hS (hS.fH ax hx)),?_⟩
     rw[cM];exact aY (t:=.int .i64) rfl
    ·cases h
   ·cases h
  ·cases h
 ·rename_i ht;have hT:=hX.ty _ _ ht;split at h
  ·rename_i v hv;refine bS h λq hS=>?_;have hq:=dp (cX (hS.fH ax hx) hv rfl);refine⟨_,uk ho ax (by unfold fL;rw[hT.str rfl]) (m:=List.length (α:=UInt8) v) (by rw[hq];simp[dV,bs,ByteArray.size]) (by rw[hq];exact hT.str rfl),aY (t:=.int .i64) rfl⟩
  ·cases h
 ·rename_i t ht;have hT:=hX.ty _ _ ht;obtain⟨el,hu⟩:=oa hT;split at h
  ·rename_i m hm;refine bS h λq hS=>?_;rcases Xx hm hX q _ hS (hS.fH ax hx)with⟨h1,h2⟩|⟨i,sz,h1⟩|⟨h1,rfl⟩
   ·refine ⟨_,uk ho ax (by unfold fL;rw[hu]) h1 ?_,aY (t:=.int .i64) rfl⟩;split
    ·rename_i v hv;exact (h2 v hv).elim
    ·exact ⟨el,hu⟩
   ·exact ⟨_,u7 ho ax hu (.inl ⟨i,sz,h1⟩),aY (t:=.int .i64) rfl⟩
   ·exact ⟨_,u7 ho ax hu (.inr ⟨h1,rfl⟩),aY (t:=.int .i64) rfl⟩
  ·cases h
 ·split at h
  ·rename_i rs hp;obtain⟨hf,h⟩:=aq h;obtain⟨el,hu,_,hc⟩:=hX.M3 lt hf;refine bS h λq hS=>?_;have hr:=hS.fH ax hx;rw[hp]at hr;refine⟨_,uk ho ax (by unfold fL;rw[hu]) (m:=rs.length) ?_ ?_,aY (t:=.int .i64) rfl⟩
   ·generalize q.ev x=u at hr;cases hr with
    |vc _ aX e1 e2 e3=>rw[e1];rfl
   ·generalize q.ev x=u at hr;cases hr with
    |vc _ aX e1 e2 e3=>exact ⟨el,hu⟩
  ·cases h
 ·cases h
end
end Go.X
