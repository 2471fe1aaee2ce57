import Derived.Test.YtedadjfbbpjaiaaGreatZ6
set_option linter.all false
namespace Go.X
open Go Go.Ev
variable{e:TypeId}{t:Ty}{d k tick len:Nat}{u:br}{g:Nat->Nat}{av:AV}{parts:Array (Nat×Operand)}{β:Type}{q':St}{qs:List br}
section
variable{P:Program}{E:Env}{U:cm}{T:da U.C}{X:Ctx U}{w0:World}{I0:Cells}{n:Nat}{o:Oper}{s:S U.C}{q:St}{α:Type}{out:α}{fz:Bool}{kx:tz U->S U.C->Option α}{K:S U.C->Option α}{esc:List (Nat×Nat)}
variable(L:Lawful U T)
theorem Nm(ax:aJ n o=true){x:Operand}(ho:o.op=.extract x k)(h:iJ X kx esc fz o s K=some out):dQ P E T X w0 I0 n fz o s kx K out:=by
 unfold iJ at h;simp only[ho]at h;split at h
 ·rename_i rs hx;split at h
  ·rename_i r hr;refine bS h (mC ax λq hS=>?_);have hp:=hS.fH ax (x:=x) (by simp[ho,Op.operands]);rw[hx]at hp;unfold ff;simp only[ho];generalize q.ev x=u at hp;cases hp with
   |fb _ qs h1 h2=>
    have hk:k<qs.length:=by rw[<-h1];exact (aV.1 hr).1
    have hq:qs[k]?=some qs[k]:=cq hk;simp only[hq];exact h2 k r _ hr hq
  ·cases h
 ·cases h
theorem zK(hX:bG P E T X)(wi:∀e t,X.ty e=some t->P.concrete e=true)(ax:aJ n o=true){x:Operand}(ho:o.op=.makeInterface e x)(h:iJ X kx esc fz o s K=some out):dQ P E T X w0 I0 n fz o s kx K out:=by
 unfold iJ at h;simp only[ho]at h;split at h
 ·rename_i t ht;split at h
  ·rename_i v hv;refine bS h (mC ax λq hS=>?_);have hT:=hX.ty _ _ ht;unfold ff;simp only[ho,cX (hS.fH ax (x:=x) (by simp[ho,Op.operands])) hv hT.ok];exact⟨wi _ _ ht,.mI e t v hT.ok⟩
  ·cases h
 ·cases h
theorem Kx(ax:aJ n o=true){x:Operand}(ho:o.op=.nilCheck x)(h:iJ X kx esc fz o s K=some out):dQ P E T X w0 I0 n fz o s kx K out:=by
 have hx:x∈o.op.operands:=by simp[ho,Op.operands]
 unfold iJ at h;simp only[ho]at h;split at h
 ·rename_i k p hp;obtain⟨i,hi,h⟩:=bind_some h;refine bS h λq hS=>?_;have hr:=hS.fH ax hx;rw[hp]at hr;have hu:=xY hr hi;exact⟨_,ij ho ax (λw I be v hv=>by rw[hu]at hv;exact xI hv),by rw[hu];exact .jZ k i 0⟩
 ·rename_i t p hp;obtain⟨y,hi,h⟩:=bind_some h;refine bS h λq hS=>?_;have hr:=hS.fH ax hx;rw[hp]at hr;obtain⟨ht,hu⟩:=DE hr hi;exact⟨_,ij ho ax (λw I be v hv=>by rw[hu]at hv;exact Da hv),by rw[hu];exact .dn t y 0 ht⟩
 ·rename_i d k hp;split at h
  ·rename_i u rs hb;refine bS h λq hS=>?_;have hr:=hS.fH ax hx;rw[hp]at hr;have hu:=nt hS hr hb;obtain⟨_,_,cs,hq,_⟩:=hS.cells hb;refine⟨_,ij ho ax (λw I be v hv=>?_),hr⟩;rw[hu]at hv;obtain⟨B,_,e⟩:=vx hv rfl (by rw[hq];simp);exact⟨_,e⟩
  ·cases h
 ·rename_i t y k hp;refine bS h λq hS=>?_;have hr:=hS.fH ax hx;rw[hp]at hr;refine⟨_,ij ho ax (λw I be v hv=>?_),hr⟩;generalize q.ev x=u at hr hv;cases hr with
  |dn _ _ _ ht=>exact Da hv
 ·rename_i k i off hp;refine bS h λq hS=>?_;have hr:=hS.fH ax hx;rw[hp]at hr;refine⟨_,ij ho ax (λw I be v hv=>?_),hr⟩;generalize q.ev x=u at hr hv;cases hr;exact xI hv
 ·rename_i k i j off hp;refine bS h λq hS=>?_;have hr:=hS.fH ax hx;rw[hp]at hr;refine⟨_,ij ho ax (λw I be v hv=>?_),hr⟩;generalize q.ev x=u at hr hv;cases hr;exact xI hv
 ·cases h
theorem Gz(L:Lawful U T)(xs:List (den U.C t)):∀x∈xs.map (enc T t),x.cells.length=bj U D t:=λx hx=>by obtain⟨y,_,rfl⟩:=cK.1 hx;exact dP L y
theorem Xy{γ:Type}(f:β->γ)(xs:List β)(l m:Nat):((xs.map f).drop l).take m=((xs.drop l).take m).map f:=by simp[C8,pj]
include L in
theorem ok_slice(hX:bG P E T X)(ax:aJ n o=true){x:Operand}{lo hi mx:Option Operand}(ho:o.op=.slice e x lo hi mx)(ah2:mx=none->∀(d':Nat)(t:Ty)(l r:Option Int),s.ev x=.whole d'->qh s none lo=some l->qh s none hi=some r->X.ty e=some (.list t)->Xh X fz s o.dst e d' t l r K=some out->dQ P E T X w0 I0 n fz o s kx K out)(h:iJ X kx esc fz o s K=some out):dQ P E T X w0 I0 n fz o s kx K out:=by
 have hx:x∈o.op.operands:=by simp[ho,Op.operands]
 have za:∀y,lo=some y->bI y=true:=λy hy=>bB ax (by simp[ho,Op.operands,hy]);have hhi:∀y,hi=some y->bI y=true:=λy hy=>bB ax (by simp[ho,Op.operands,hy]);cases mx with
 |none=>
  unfold iJ at h;simp only[ho]at h;split at h
  ·rename_i l r hl hr;have key:∀(te:Ty)(xs:List (den U.C te)),X.ty e=some (.list te)->(∀q,aN P E T X s q->bh (q.ev x)=some (.sl (xs.map (enc T te))))->zy (β:=den U.C te) xs l r (λys=>K (s.put o.dst (.val (.list te) ys)))=some out->dQ P E T X w0 I0 n fz o s kx K out:=by
    intro te xs ht hq h;have hT:=hX.ty _ _ ht;obtain⟨el,hu,jk⟩:=hT.list te rfl;have je:=hX.ty _ _ jk;obtain⟨l',r',e1,e2,h0,h1,h2,h3,h⟩:=Ba h;refine bS h (mC ax λq hS=>?_);have b1:=wg (dflt:=0) hS za hl h0;have b2:=wg (dflt:=(xs.map (enc T te)).length) hS hhi hr h1;rw[e1]at b1;rw[cM]at b2;rw[e2]at b2;unfold ff;simp only[ho];have hsl:∀K',(bn P E T s.b q.g s.tick (.val (.list te) ((xs.drop l').take (r'-l'))) (.val (.sl (((xs.map (enc T te)).drop l').take (r'-l'))))->K' (.val (.sl (((xs.map (enc T te)).drop l').take (r'-l')))))->nI P q e (xs.map (enc T te)) lo hi none K':=λK' hK=>by unfold nI;simp only[gn hu,b1,cM,b2];refine⟨⟨je.pos,λy hy=>by rw[Gz L xs y hy,je.cells],h2,by simpa using h3⟩,hK ?_⟩;rw[Xy];exact aY (t:=.list te) hT.ok
    rcases qW (hq q hS)with e'|e'<;>rw[e']<;>exact hsl _ λh=>h
   split at h
   ·rename_i te xs t hp ht;cases hd:decide (te=t)with
    |false=>rw[hd]at h;cases h
    |true=>
     rw[hd]at h;obtain rfl:=eF hd;simp only[ba]at h;refine key te xs ht (λq hS=>?_) h;have hr:=hS.fH ax hx;rw[hp]at hr;generalize q.ev x=u at hr;cases hr with
     |val _ _ _ av hq hv=>obtain ⟨_,rfl⟩:=hv;exact hq
   ·rename_i te xs t hp ht;cases hd:decide (te=t)with
    |false=>rw[hd]at h;cases h
    |true=>
     rw[hd]at h;obtain rfl:=eF hd;simp only[ba]at h;refine key te xs ht (λq hS=>?_) h;have hr:=hS.fH ax hx;rw[hp]at hr;generalize q.ev x=u at hr;cases hr with
     |full _ _ _=>rfl
   ·rename_i d' t hp ht;cases l with
    |none=>exact ah2 rfl d' t none r hp hl hr ht h|some l=>
     simp only at h;unfold aej at h;split at h
     ·rename_i t' el xs hb;replace h:=aq h;obtain⟨hc,h⟩:=h;simp only[aD,az]at hc;obtain⟨rfl,jk⟩:=hc;have hT:=hX.ty _ _ ht;obtain⟨hu,_⟩:=hT.elem _ _ rfl jk;have part:∀(b:Nat),TJ xs.length r=b->0<=l->(∀m,r=some m->0<=m)->l.toNat<=b->b<=xs.length->K (s.put o.dst (.sub d' l.toNat (b-l.toNat)))=some out->dQ P E T X w0 I0 n fz o s kx K out:=by
       intro b dZ h0 h1 h2 h3 h;refine bS h λq hS=>?_;have Q2:=hS.fH ax hx;rw[hp]at Q2;obtain⟨_,hq⟩:=hS.aT hb;have b1:=wg (dflt:=0) hS za hl λm e=>by simp only[ah]at e;subst e;exact h0
       have b2:=wg (dflt:=xs.length) hS hhi hr h1;rw[dZ]at b2;have hy:=mP (P:=P) (E:=E) (w0:=w0) (I0:=I0) (n:=n) (s:=q) ho ax (gn hu) (fh hS Q2 hb) rfl hq (l:=l.toNat) (h:=b) b1 b2 h2 h3;rw[cS]at hy;refine⟨_,hy,.sub _ _ _ _ λst t2 e2 xs2 Sm=>?_⟩;have:=c7 hb;rw[Sm]at this;simp only[ah,aS,B.aT.injEq]at this;obtain⟨_,rfl,_,this⟩:=this;cases this;exact⟨rfl,by omega⟩
      cases r with
      |none=>simp only at h;replace h:=bind_some h;obtain⟨_,u9,h⟩:=h;replace u9:=dx u9;simp only[aD,az]at u9;exact part xs.length rfl u9.1 (λm e=>by cases e) u9.2 (aP _) h
      |some r=>simp only at h;replace h:=bind_some h;obtain⟨_,u9,h⟩:=h;replace u9:=dx u9;simp only[aD,az]at u9;exact part r.toNat rfl u9.1 (λm e=>by simp only[ah]at e;subst e;exact u9.2.1) u9.2.2.1 u9.2.2.2 h
     ·cases h
   ·rename_i r' ht;split at h
    ·rename_i v hv;have hT:=hX.ty _ _ ht;obtain⟨l',r',e1,e2,h0,h1,h2,h3,h⟩:=Ba h;refine bS h (mC ax λq hS=>?_);have hq:=dp (cX (hS.fH ax hx) hv rfl);have b1:=wg (dflt:=0) hS za hl h0;have b2:=wg (dflt:=List.length (α:=UInt8) v) hS hhi hr h1;rw[e1]at b1;rw[e2]at b2;unfold ff;simp only[ho];rw[hq];unfold HM;simp only[b1,b2];exact⟨⟨trivial,hT.str rfl,h2,h3⟩,aY (t:=.str) rfl⟩
    ·cases h
   ·cases h
  ·cases h
 |some z=>
  unfold iJ at h;simp only[ho]at h;cases h0:sl0 lo hi z with
  |false=>rw[h0]at h;cases h
  |true=>
   rw[h0]at h;simp only[ba]at h;obtain⟨h1,h2,rfl,rfl,rfl⟩:∃k k',lo=none/\hi=some (.const (.int k 0))/\z=.const (.int k' 0):=by
    unfold sl0 at h0;split at h0
    ·exact ⟨_,_,rfl,rfl,rfl⟩
    ·cases h0
   split at h
   ·rename_i te xs t hp ht;cases hd:decide (te=t)with
    |false=>rw[hd]at h;cases h
    |true=>
     rw[hd]at h;obtain rfl:=eF hd;simp only[ba]at h;have hT:=hX.ty _ _ ht;obtain⟨el,hu,jk⟩:=hT.list te rfl;have je:=hX.ty _ _ jk;refine bS h (mC ax λq hS=>?_);have hr:=hS.fH ax hx;rw[hp]at hr;have hq:bh (q.ev x)=some (.sl (xs.map (enc T te))):=by
      generalize q.ev x=u at hr;cases hr with
      |val _ _ _ av hq hv=>obtain ⟨_,rfl⟩:=hv;exact hq
     have hsl:nI P q e (xs.map (enc T te)) none (some (.const (.int h1 0))) (some (.const (.int h2 0))) λu=>bn P E T s.b q.g s.tick (.full te []) u:=by
      unfold nI;have hb:∀k d,nD q d (some (.const (.int k 0)))=some 0:=λk d=>by simp[nD,St.ev,cf]
      simp only[gn hu,hb];refine⟨⟨je.pos,λy hy=>by rw[Gz L xs y hy,je.cells],eC _,eC _,rfl,trivial⟩,?_⟩;simp only[zd,vG];exact .full te [] je.ok
     unfold ff;simp only[ho];rcases qW hq with e'|e'<;>rw[e']<;>exact hsl
   ·cases h
theorem Rc{a b:Option β}{r:β}(h:both a b=some r):a=some r/\b=some r:=by
 unfold both at h;by_cases e:a=b
 ·rw[ap e]at h;exact ⟨h,e▸h⟩
 ·rw[ai e]at h;cases h
include L in
theorem TQ(hX:bG P E T X)(ax:aJ n o=true){bo:BinOp}{e':TypeId}{x y:Operand}(ho:o.op=.binOp bo e x y e')(h:iJ X kx esc fz o s K=some out):dQ P E T X w0 I0 n fz o s kx K out:=by
 unfold iJ at h;simp only[ho]at h;split at h
 ·rename_i t ht;have hx:x∈o.op.operands:=by simp[ho,Op.operands]
  have hT:=hX.ty _ _ ht;obtain⟨el,hu⟩:=oa hT;have QG:H4 y=true->y=.const (.slice none 0 0):=λhn=>by
   unfold H4 at hn;split at hn
   ·rfl
   ·cases hn
  have key:∀(a:List (den U.C t)),fV (.list t) (s.ev x)=some a->H4 y=true->(bo=.eql∨bo=.neq)->(bif !fz then none else cond (List.isEmpty (α:=den U.C t) a) (both (K (s.put o.dst (.val .bool (if bo=.eql then true else !true)))) (K (s.put o.dst (.val .bool (if bo=.eql then false else !false))))) (K (s.put o.dst (.val .bool (if bo=.eql then false else !false)))))=some out->dQ P E T X w0 I0 n fz o s kx K out:=by
   intro a ha hn sX h;cases fz with
   |false=>cases h
   |true=>
    simp only[fG,bc]at h;have hq:∀q,aN P E T X s q->bh (q.ev x)=some (.sl (a.map (enc T t))):=λq hS=>cX (hS.fH ax hx) ha hT.ok;cases he:List.isEmpty (α:=den U.C t) a with
    |true=>
     rw[he]at h;simp only[ba]at h;have hb:=Rc h;refine .two rfl _ _ hb.1 hb.2 (bd _ _) (bd _ _) λq hS=>?_;refine AU ho ax sX (QG hn) hu (hq q hS) λb _=>?_;cases b with
     |true=>exact .inl (hS.put o.dst (aY (t:=.bool) rfl))|false=>exact .inr (hS.put o.dst (aY (t:=.bool) rfl))
    |false=>
     rw[he]at h;simp only[bc]at h;refine .one _ h (bd _ _) λq hS=>?_;refine AU ho ax sX (QG hn) hu (hq q hS) λb hb=>?_;cases b with
     |true=>
      have:=hb rfl;have:a=[]:=by simpa using this
      subst this;cases he
     |false=>exact ⟨hS.put o.dst (aY (t:=.bool) rfl),λh=>by cases h⟩
  split at h
  ·rename_i a ha hn;exact key a ha hn (.inl rfl) h
  ·rename_i a ha hn;exact key a ha hn (.inr rfl) h
  ·cases h
 ·rename_i t WZ ht;replace h:=aq h;obtain⟨jY,h⟩:=h;obtain⟨t',v,h1,h2⟩:=Xo (w0:=w0) (I0:=I0) L (hX.ty _ _ ht) (by simpa using jY) ho ax h;exact bS h1 h2
 ·cases h
end
section
variable{P:Program}{E:Env}{U:cm}{T:da U.C}{X:Ctx U}{w0:World}{I0:Cells}{n:Nat}{o:Oper}{s:S U.C}{q:St}{α:Type}{out:α}{fz:Bool}{kx:tz U->S U.C->Option α}{K:S U.C->Option α}{esc:List (Nat×Nat)}
variable(L:Lawful U T)
theorem TR{bx:List (Nat×Nat×B U.C)}{st:Nat}{b:B U.C}:∀d',d'≠d->kX bx ((d,st,b)::bk bx d) g (bF g d (g d+1)) tick d':=λd' e=>by left;rw[aI,ai (c5 e),aF,ai (c5 e),ay _ _ e];exact⟨rfl,rfl⟩
theorem aN.cT {s:S U.C} {q:St} (h:aN P E T X s q) {rs:List (R U.C)} {cs:List br} (hf:oy d s.b=true) (hm:(B.cells t rs).mentions d=false) (ht:fg t=true) (hl:bj U D t=rs.length) (hr:dL P E T s.b q.g s.tick rs cs):
  aN P E T X (({s with r:=lQ d s.tick s.r,b:=(d,s.tick,.cells t rs)::bk s.b d,tick:=s.tick+1}:S U.C).put (some d) (.loc d 0)) (q.cT d cs):=by
 have hb:pI P E T X ((d,s.tick,B.cells t rs)::bk s.b d) (bF q.g d (q.g d+1)) (s.tick+1) (some (s.tick,.cells t rs)) (some (.cells cs)):=by refine⟨ht,hl,cs,rfl,hr.1,λi r c h1 h2=>(hr.2 i r c h1 h2).mono (λd' hd=>TR d' λe=>?_) (cL _)⟩;subst e;have:=eo.1 hm r (bC h1);rw[this]at hd;cases hd
 have:=(h.Nf hf hb).put (some d) (r:=.loc d 0) (u:=.loc d (q.g d+1) 0 0 0) (.loc d 0 _ λst u yR oD=>by simp);exact this
theorem aN.bP {s:S U.C} {q:St} (h:aN P E T X s q) {xs:List (den U.C t)} (hf:oy d s.b=true) (ht:X.ty e=some t):
  aN P E T X (({s with r:=lQ d s.tick s.r,b:=(d,s.tick,.aT t e xs)::bk s.b d,tick:=s.tick+1}:S U.C).put (some d) (.whole d)) (q.bP d e (xs.map (enc T t))):=by
 have hb:pI P E T X ((d,s.tick,B.aT t e xs)::bk s.b d) (bF q.g d (q.g d+1)) (s.tick+1) (some (s.tick,.aT t e xs)) (some (.aT e (xs.map (enc T t)))):=⟨ht,rfl⟩
 have:=(h.Nf hf hb).put (some d) (r:=.whole d) (u:=.view d (q.g d+1) 0 (xs.map (enc T t)).length) (.whole d _ λst t' e' om oD=>by simp only[aI,bp,ah,aS,B.aT.injEq]at oD;obtain⟨_,rfl,_,oD⟩:=oD;cases oD;simp);exact this
theorem TS{r:br}{x:Bx}(hd:o.dst=some d)(nP:d∈dS o)(uU:turns X s o.op=true):Fr X s o q {q with r:=bF q.r d r,b:=bF q.b d (some x),g:=bF q.g d (q.g d+1)}:=by
 refine⟨λt ht _=>.inl (ay _ _ λe=>ht (by rw[hd,e])),λd' _ fF=>?_,λ_ _ _ _=>⟨rfl,rfl⟩,rfl,λd' fF=>?_,λh=>by rw[uU]at h;cases h⟩
 ·have:d'≠d:=λe=>fF (e▸nP);exact⟨ay _ _ this,ay _ _ this⟩
 ·have:d'≠d:=λe=>fF (e▸nP);exact⟨.of_eq (ay _ _ this),ay _ _ this⟩
theorem pU(hd:o.dst=some d)(nP:d∈dS o)(uU:turns X s o.op=true){rs:List (R U.C)}(h:s.new d (.cells t rs) (λs=>K (s.put o.dst (.loc d 0)))=some out)(ht:fg t=true)(hl:bj U D t=rs.length)
  (hs:∀q,aN P E T X s q->∃cs,dL P E T s.b q.g s.tick rs cs/\∀K':St->Prop,K' (q.cT d cs)->Sound P E w0 I0 n o q K'):dQ P E T X w0 I0 n fz o s kx K out:=by
 obtain⟨⟨h1,h2⟩,h⟩:=nM h;rw[hd]at h;refine .one _ h ((kY _ _).trans (bd _ _)) λq hS=>?_;obtain⟨cs,h3,h4⟩:=hs q hS;exact h4 _ ⟨hS.cT h1 h2 ht hl h3,λ_=>TS hd nP uU⟩
theorem zL(hd:o.dst=some d)(nP:d∈dS o)(uU:turns X s o.op=true){xs:List (den U.C t)}(h:s.new d (.aT t e xs) (λs=>K (s.put o.dst (.whole d)))=some out)(ht:X.ty e=some t)
  (hs:∀q,aN P E T X s q->∀K':St->Prop,K' (q.bP d e (xs.map (enc T t)))->Sound P E w0 I0 n o q K'):dQ P E T X w0 I0 n fz o s kx K out:=by
 obtain⟨⟨h1,h2⟩,h⟩:=nM h;rw[hd]at h;exact .one _ h ((kY _ _).trans (bd _ _)) λq hS=>hs q hS _ ⟨hS.bP h1 ht,λ_=>TS hd nP uU⟩
theorem Ky(h:bh u=some av)(hw:av.isAgg=true):eZ u=some (av.cells.map .val):=by
 cases u<;>simp[bh]at h
 ·subst h;rfl
 ·subst h;cases hw
theorem vj(h:bh u=some av)(hw:av.isAgg=false):eZ u=some [u]/\vC u∨∃xs,u=.full xs:=by
 cases u<;>simp[bh]at h
 ·subst h;left;rename_i v;have:v.cells=[v]:=by cases v<;>first|rfl|(simp[AV.isAgg]at hw)
  refine⟨by simp[eZ,this],?_⟩;show v.wf;intro c hc;rw[this]at hc;simp at hc;rw[hc];exact hw
 ·right;exact ⟨_,rfl⟩
theorem GA{x:den U.C t}(hs:aL t=false):(enc T t x).isAgg=false:=qT hs
theorem Kz{r r':R U.C}(h:OH s t r=some r')(hs:aL t=false):∀q u,aN P E T X s q->bn P E T s.b q.g s.tick r u->eZ u=some [u]/\vC u/\alive q u/\bn P E T s.b q.g s.tick r' u:=by
 intro q u hS hr;unfold OH at h;split at h
 ·rename_i d;split at h
  ·rename_i te e xs hb;simp only[ah]at h;subst h;have hu:=fh hS hr hb;obtain⟨_,hq⟩:=hS.aT hb;subst hu;exact⟨rfl,trivial,⟨rfl,_,_,hq⟩,hr⟩
  ·cases h
 ·rename_i d k;split at h
  ·rename_i te rs hb;simp only[ah]at h;subst h;have hu:=nt hS hr hb;obtain⟨_,_,cs,hq,_⟩:=hS.cells hb;subst hu;exact⟨rfl,trivial,⟨rfl,by rw[hq];simp⟩,hr⟩
  ·cases h
 ·rename_i f caps;simp only[ah]at h;subst h;have Q2:=hr;cases hr with
  |fn _ _ aX h1 h2=>exact ⟨rfl,(λc hc=>by simp[AV.cells]at hc;subst hc;rfl),trivial,Q2⟩
 ·rename_i t' xs;cases hd:decide (t=.list t')with
  |false=>rw[hd]at h;cases h
  |true=>
   rw[hd]at h;simp only[ba,ah]at h;subst h;have Q2:=hr;cases hr with
   |full _ _ ho=>exact ⟨rfl,trivial,trivial,Q2⟩
 ·rename_i v;cases hn:eG v with
  |true=>
   rw[hn]at h;simp only[ba]at h;split at h
   ·rename_i t';cases ho:fg t' with
    |false=>rw[ho]at h;cases h
    |true=>
     rw[ho]at h;simp only[ba,ah]at h;subst h;unfold eG at hn;split at hn
     ·cases hr with
      |const _ hc=>exact ⟨rfl,trivial,trivial,.full t' [] ho⟩
     ·cases hn
   ·cases h
  |false=>
   rw[hn]at h;simp only[bc]at h;cases ho:fg t with
   |false=>rw[ho]at h;cases h
   |true=>
    rw[ho]at h;simp only[ba]at h;split at h
    ·rename_i x hx;simp only[ah]at h;subst h;have hq:bh u=some (enc T t x):=cX (r:=.const v) hr (by simp[fV,ho,hx]) ho;rcases vj hq (GA hs)with⟨h1,h2⟩|⟨xs,h1⟩
     ·refine ⟨h1,h2,?_,.val t x u _ hq (gH ho)⟩;cases u<;>first|trivial|(simp[bh]at hq)
     ·subst h1;exact⟨rfl,trivial,trivial,.val t x _ _ hq (gH ho)⟩
    ·cases h
 ·rename_i t' x;split at h
  ·rename_i x' hx;cases ho:fg t with
   |false=>rw[ho]at h;cases h
   |true=>
    rw[ho]at h;simp only[ba,ah]at h;subst h;have hq:bh u=some (enc T t x'):=cX (r:=.val t' x) hr (by simpa[fV]using hx) ho;rcases vj hq (GA hs)with⟨h1,h2⟩|⟨xs,h1⟩
    ·refine ⟨h1,h2,?_,.val t x' u _ hq (gH ho)⟩;cases u<;>first|trivial|(simp[bh]at hq)
    ·subst h1;exact⟨rfl,trivial,trivial,.val t x' _ _ hq (gH ho)⟩
  ·cases h
 ·cases h
theorem mV:∀(k:Nat)(t:Ty)(rs:List (R U.C)),eW U k t=true->pk U k t=some rs->rs.length=bj U k t
 |k,t,rs,hd,h=>by
  cases t with
  |struct m=>
   cases k with
   |zero=>simp[eW]at hd|succ k=>
    simp only[eW,cJ]at hd;have key:∀(ts:List Ty)(rs:List (R U.C)),(∀t∈ts,eW U k t=true)->tw (pk U k) ts=some rs->rs.length=iF (bj U k) ts:=by
     intro ts;induction ts with
     |nil=>intro rs _ h;simp only[tw,ah]at h;subst h;rfl|cons t ts ih=>
      intro rs hd h;simp only[tw]at h;split at h
      ·rename_i x xs h1 h2;simp only[ah]at h;subst h;rw[kR,mV k t x (hd t (by simp)) h1,ih xs (λt ht=>hd t (by simp[ht])) h2];rfl
      ·cases h
    simp only[pk]at h;exact key _ _ hd h
  |mp m=>cases hb:Nat.blt m 1000<;>cases k<;>simp only[pk,hb,ba,bc,ah,reduceCtorEq]at h<;>(first|(subst h;rfl)|cases h)
  |_=>cases k<;>simp only[pk,ah,reduceCtorEq]at h<;>(first|(subst h;rfl)|cases h)
include L in
theorem TU(hX:bG P E T X)(ax:aJ n o=true)(ho:o.op=.alloc e)(ya:pT esc o.dst=none)(h:iJ X kx esc fz o s K=some out):dQ P E T X w0 I0 n fz o s kx K out:=by
 unfold iJ at h;simp only[ho,ya]at h;split at h
 ·rename_i d t cs hd ht hz;rw[ht]at hz;have hz:pk U D t=some cs:=hz;have hT:=hX.ty _ _ ht;cases hc:(fz||(s.box d).isNone)with
  |false=>rw[hc]at h;cases h
  |true=>
   rw[hc]at h;simp only[ba]at h;obtain⟨i,zv,g1,g2,g3,g4,g5,g6⟩:=hT.zero;obtain⟨g7,g8⟩:=g6 cs hz;refine pU hd (by simp[dS,hd,ho]) (by simp[turns,ho]) h hT.ok (mV D t cs (iz L t) hz).symm λq hS=>?_;have hex:∃zc:List br,zc.length=cs.length/\∀(j:Nat)(r:R U.C)(v:Value)(c:br),cs[j]?=some r->zv.cells[j]?=some v->zc[j]?=some c->(c=cf v∨(v=.slice none 0 0/\c=.val .emp))/\bn P E T s.b q.g s.tick r c:=by
    have:∀j:Fin cs.length,∃c:br,∀v,zv.cells[j.1]?=some v->(c=cf v∨(v=.slice none 0 0/\c=.val .emp))/\bn P E T s.b q.g s.tick cs[j] c:=λj=>by
     have hj:j.1<zv.cells.size:=by rw[g7];exact j.2
     rcases g8 j.1 cs[j] zv.cells[j.1] (by simp) (by simp[hj])with h1|⟨h1,h2⟩
     ·exact ⟨cf zv.cells[j.1],λv hv=>by
       have:v=zv.cells[j.1]:=by simpa[hj]using hv.symm
       subst this;exact⟨.inl rfl,h1 _ _ _⟩⟩
     ·exact ⟨.val .emp,λv hv=>by
       have:v=zv.cells[j.1]:=by simpa[hj]using hv.symm
       subst this;exact⟨.inr ⟨h1,rfl⟩,h2 _ _ _⟩⟩
    refine⟨List.ofFn λj:Fin cs.length=>(this j).choose,by simp,λj r v c h1 h2 h3=>?_⟩;have hj:j<cs.length:=(aV.1 h1).1;rw[List.getElem?_ofFn]at h3;simp only[hj,dite_true,ah]at h3;subst h3;have:=(this ⟨j,hj⟩).choose_spec v h2;have hr:cs[j]=r:=by simpa[hj]using h1
    subst hr;exact this
   obtain⟨zc,z1,z2⟩:=hex;refine⟨zc,⟨z1.symm,λj r c h1 h2=>?_⟩,λK' L6=>?_⟩
   ·have hj:j<zv.cells.size:=by rw[g7];exact (aV.1 h1).1
    exact(z2 j r zv.cells[j] c h1 (by simp[hj]) h2).2
   ·refine xK ho hd g1 g2 g3 (by rw[z1,g7]) (λj v c h1 h2=>?_) L6;have hj:j<cs.length:=by have:=(aV.1 h2).1;omega
    exact(z2 j cs[j] v c (by simp[hj]) h1 h2).1
 ·rename_i d t hd ht hz;have hT:=hX.ty _ _ ht;replace h:=aq h;obtain⟨hc,h⟩:=h;obtain⟨i,zv,g1,g2,g3,g4,g5,g6⟩:=hT.zero;have dh:zv.cells.size=bj U D t:=by rw[g4,<-hT.cells];unfold Program.cellsOf;rw[g1];rfl
  refine pU hd (by simp[dS,hd,ho]) (by simp[turns,ho]) h hT.ok (by simp) λq hS=>?_;refine⟨zv.cells.toList.map cf,⟨by simp[dh],λj r c h1 h2=>?_⟩,λK' L6=>?_⟩
  ·have:r=.none:=by
    rw[TV]at h1;split at h1
    ·simpa using h1.symm
    ·cases h1
   subst this;exact .none _
  ·refine xK ho hd g1 g2 g3 (by simp) (λj v c h1 h2=>.inl ?_) L6;simp only[dd,iW,h1,bQ,ah]at h2;exact h2.symm
 ·cases h
include L in
theorem abj(hX:bG P E T X)(ax:aJ n o=true){x:Operand}(ho:o.op=.box e x)(ya:pT esc o.dst=none)(h:iJ X kx esc fz o s K=some out):dQ P E T X w0 I0 n fz o s kx K out:=by
 have hx:x∈o.op.operands:=by simp[ho,Op.operands]
 unfold iJ at h;simp only[ho,ya]at h;split at h
 ·rename_i d t hd ht;have hT:=hX.ty _ _ ht;cases hc:(fz||(s.box d).isNone)with
  |false=>rw[hc]at h;cases h
  |true=>
   rw[hc]at h;simp only[ba]at h;cases hs:aL t with
   |true=>
    rw[hs]at h;simp only[ba]at h;split at h
    ·rename_i v hv;have hlen:(oz U D t v).length=bj U D t:=by have:=(iQ (P:=P) (E:=E) (T:=T) (bx:=[]) (g:=λ_=>0) (tick:=0) L D t v (iz L t) hT.ok).1;rw[this,cM,dP L]
     refine pU hd (by simp[dS,hd,ho]) (by simp[turns,ho]) h hT.ok hlen.symm λq hS=>⟨(enc T t v).cells.map .val,iQ L D t v (iz L t) hT.ok,λK' L6=>?_⟩
     have hq:=cX (hS.fH ax hx) hv hT.ok;have Jw:(enc T t v).isAgg=true:=by cases t<;>first|rfl|(simp[aL]at hs)
     refine yV ho ax hd (Ky hq Jw) ?_ L6;generalize q.ev x=u at hq;cases u<;>first|trivial|(simp[bh]at hq)
    ·cases h
   |false=>
    rw[hs]at h;simp only[bc]at h;split at h
    ·rename_i r hr;have h1:bj U D t=1:=by cases t<;>first|rfl|(simp[aL]at hs)
     refine pU hd (by simp[dS,hd,ho]) (by simp[turns,ho]) h hT.ok (by rw[h1];rfl) λq hS=>?_;obtain⟨q1,q2,q3,q4⟩:=Kz hr hs q _ hS (hS.fH ax hx);exact⟨[q.ev x],.cons q4 .nil,λK' L6=>yV ho ax hd q1 q3 L6⟩
    ·cases h
 ·cases h
theorem GB(hX:bG P E T X){te:Ty}(Sl:fg te=true)(L:Lawful U T):∀(l:List (Nat×Operand))(m:Nat)(xs:List (den U.C te)),Dn s te l m=some xs->l.map (·.1)=(List.range l.length).map (·+m)/\l.length=xs.length/\∀q,aN P E T X s q->(∀p∈l,bI p.2=true)->bK q (l.map (·.2))=some (xs.map (enc T te))
 |[],m,xs,h=>by simp only[Dn,ah]at h;subst h;exact ⟨rfl,rfl,λq _ _=>rfl⟩|(i,x)::l,m,xs,h=>by
  simp only[Dn]at h;cases hb:Nat.beq i m with
  |false=>rw[hb]at h;cases h
  |true=>
   rw[hb]at h;simp only[ba]at h;obtain rfl:=bM hb;split at h
   ·rename_i v vs h1 h2;simp only[ah]at h;subst h;obtain⟨q1,q2,q3⟩:=GB hX Sl L l (i+1) vs h2;refine⟨?_,by simp[q2],λq hS sX=>?_⟩
    ·simp only[eD,dE,List.range_succ_eq_map,xq];rw[q1];simp only[cS,Gp,nY];apply xr;intro a _;simp only[Function.comp];omega
    ·simp only[eD,bK];rw[cX (hS.ev x (sX (i,x) (by simp))) h1 Sl,q3 q hS λp hp=>sX p (by simp[hp])]
   ·cases h
theorem wj{bx:List (Nat×Nat×B U.C)}{c:Nat->Nat->Option AV}{r:R U.C}(hr:bn P E T bx g tick r u)(hm:r.mentions d=false):bn P E T (bk bx d) (bF g d (g d+1)) (tick+1) r (ju d (g d+1) c u):=by
 have h2:=hr.mono (bx':=bk bx d) (g':=bF g d (g d+1)) (λd' fF=>.inl (by
  have dA:d≠d':=λe=>by subst e;rw[hm]at fF;cases fF
  rw[aF,ai dA,ay _ _ (c5 dA)];exact⟨rfl,rfl⟩)) (cL tick)
 have dA:∀d' st x,ao (bk bx d) d'=some (st,x)->d'≠d/\ao bx d'=some (st,x):=λd' st x hx=>by
  rw[aF]at hx;split at hx
  ·cases hx
  ·rename_i h;exact ⟨c5 h,hx⟩
 cases hr with
 |none=>exact .none _|val t x _ av hq hv=>rw[DH hq];exact h2
 |const w hw=>rw[Be];exact h2|loc d' k _ hq=>refine .loc d' k _ λst u rs hb=>?_;obtain⟨h1,h3⟩:=dA _ _ _ hb;rw[hq _ _ _ h3,ay _ _ h1];rfl
 |whole d' _ hq=>refine .whole d' _ λst t e xs hb=>?_;obtain⟨h1,h3⟩:=dA _ _ _ hb;rw[hq _ _ _ _ h3,ay _ _ h1];simp[ju,h1]|gl d' i k mn t x _ JJ hq=>refine .gl d' i k mn t x _ (by omega) λst t' e xs hb=>?_;obtain⟨h1,h3⟩:=dA _ _ _ hb;obtain⟨q1,q2,q3⟩:=hq _ _ _ _ h3;rw[q1,ay _ _ h1];exact⟨rfl,q2,q3⟩
 |sub d' off m _ hq=>refine .sub d' off m _ λst t e xs hb=>?_;obtain⟨h1,h3⟩:=dA _ _ _ hb;obtain⟨q1,q2⟩:=hq _ _ _ _ h3;rw[q1,ay _ _ h1];exact⟨by simp[ju,h1],q2⟩|_=>exact h2
theorem It:∀(l:List (Nat×Operand))(hl:∀p∈l,bI p.2=true),(vU s (fy l)).all Q7=true->∀q,aN P E T X s q->∃aX,bK q (l.map (·.2))=some aX/\(vU s (fy l)).length=aX.length/\(∀(i:Nat)(r:R U.C)(av:AV),(vU s (fy l))[i]?=some r->aX[i]?=some av->bn P E T s.b q.g s.tick r (.val av))/\∀(i:Nat)(av:AV),aX[i]?=some av->av.isAgg=false/\av.cells=[av]
 |[],_,_,q,hS=>⟨[],rfl,rfl,λi r av h=>by simp[vU,fy]at h,λi av h=>by simp at h⟩|(j,x)::l,hl,h,q,hS=>by
  simp only[fy,vU,vi,aD]at h;obtain⟨aX,h1,h2,h3,h4⟩:=It l (λy hy=>hl y (by simp[hy])) h.2 q hS;have hr:=hS.ev x (hl (j,x) (by simp));have:∃av,q.ev x=.val av/\(av.isAgg=false/\av.cells=[av])/\bn P E T s.b q.g s.tick (s.ev x) (.val av):=by
   have hc:=h.1;revert hr hc;generalize s.ev x=r;generalize q.ev x=u;intro hr hc;cases hr with
   |fn f caps aX h1 h2=>exact ⟨_,rfl,⟨rfl,rfl⟩,.fn f caps aX h1 h2⟩|nz f caps aX h1 h2=>exact ⟨_,rfl,⟨rfl,rfl⟩,.nz f caps aX h1 h2⟩
   |_=>cases hc
  obtain⟨av0,h5,h50,h6⟩:=this;refine⟨av0::aX,by simp[bK,h5,bh,h1],by simp[vU,fy,h2],λi r av hr eS=>?_,λi av eS=>?_⟩
  ·cases i with
   |zero=>simp[vU,fy]at hr eS;subst hr eS;exact h6|succ i=>exact h3 i r av (by simpa[vU,fy]using hr) (by simpa using eS)
  ·cases i with
   |zero=>simp at eS;subst eS;exact h50|succ i=>exact h4 i av (by simpa using eS)
theorem Bf:∀{l:List (Nat×Operand)}{n:Nat},AZ l n=true->l.map (·.1)=(List.range l.length).map (·+n)
 |[],n,h=>rfl|(i,x)::l,n,h=>by simp only[AZ,aD]at h;have e:=bM h.1;rw[dE,List.range_succ_eq_map,eD,eD,Bf h.2,xq];simp only[e,cS,Gp,nY];apply xr;intro a _;simp only[Function.comp];omega
theorem abk(hX:bG P E T X)(ax:aJ n o=true)(ho:o.op=.buildSlice e len parts)(h:aa7 X fz s o.dst e len parts.toList K=some out):dQ P E T X w0 I0 n fz o s kx K out:=by
 unfold aa7 at h;split at h
 ·rename_i d hd;replace h:=aq h;obtain⟨hc,h⟩:=h;simp only[aD,az]at hc;obtain⟨rfl,hf,hlen,JN,cY,h64,CO,KB⟩:=hc;have hlen:=bM hlen;obtain⟨el,hu,hz,h1⟩:=hX.M3 e hf;have WE:bu s ({s with r:=lQ d s.tick s.r,b:=bk s.b d,tick:=s.tick+1}:S U.C):=by
   refine⟨rfl,cL _,λt st x hx mK=>?_,λe st x hx mK=>?_,λh=>⟨rfl,rfl⟩⟩
   ·simp only[kW,ck]at hx;obtain⟨⟨jh,x'⟩,e1,e2⟩:=hx;split at e2
    ·simp only[aS]at e2;omega
    ·simp only[aS]at e2;rw[e1,e2.1,e2.2]
   ·simp only[aF]at hx;split at hx
    ·cases hx
    ·exact hx
  refine .one _ h (WE.trans (bd _ _)) λq hS=>?_;have Re:∀p∈parts.toList,bI p.2=true:=λp hp=>bB ax (by simp only[ho,Op.operands,y7,cK];simpa using⟨p.1,by simpa using hp⟩);obtain⟨aX,a1,a2,a3,a4⟩:=It parts.toList Re cY q hS;have wY:parts.toList.map (·.1)=List.range len:=by rw[Bf JN,hlen];exact(xr λa _=>mL a).trans (Kt _)
  have jk:gY P el aX:=λy hy=>by obtain⟨i,hi⟩:=lK.1 hy;obtain⟨e1,e2⟩:=a4 i y hi;exact⟨by rw[h1,e2];rfl,λc hc=>by rw[e2]at hc;simp at hc;subst hc;exact e1⟩
  refine Sound.weaken (mO (K:=λq1=>q1=q.bP d el aX) ho ax hd (gn hu) hz wY (by rw[h1];omega) a1 jk rfl) λq1 e1=>?_;subst e1;refine⟨(q.bP d el aX).cv d λoff len=>some (.sl ((aX.drop off).take len)),λa w hr=>vP (bA _ _ _) hr,?_,λhf=>by cases hf⟩;have hm:∀t,((({s with r:=lQ d s.tick s.r,b:=bk s.b d,tick:=s.tick+1}:S U.C)).look t).mentions d=false/\((({s with r:=lQ d s.tick s.r,b:=bk s.b d,tick:=s.tick+1}:S U.C)).look t=s.look t∨(({s with r:=lQ d s.tick s.r,b:=bk s.b d,tick:=s.tick+1}:S U.C)).look t=.none):=λt=>by
   rw[S.look_eq,S.look_eq];simp only[kW];cases hl:ao s.r t with
   |none=>exact ⟨rfl,.inl rfl⟩|some x=>
    obtain⟨st,x⟩:=x;simp only[bQ];cases hx:x.mentions d with
    |true=>simp[R.mentions]|false=>simp[hx]
  rw[hd];refine⟨λt=>?_,λd'=>?_,λt st x hx=>?_,λd' st x hx=>?_,hS.heap,hS.df⟩
  ·by_cases ht:d=t
   ·subst ht;have e1:(S.put ({s with r:=lQ d s.tick s.r,b:=bk s.b d,tick:=s.tick+1}:S U.C) (some d) (.vc (vU s (fy parts.toList)))).look d=.vc (vU s (fy parts.toList)):=by unfold S.look S.put;simp[aI]
    have e2:((q.bP d el aX).cv d λoff len=>some (.sl ((aX.drop off).take len))).r d=.val (.sl aX):=by simp[St.cv,St.bP,ju,cV]
    rw[e1,e2];refine .vc _ _ a2 (λi r av hr eS=>?_) λi av eS=>(a4 i av eS).1;have HV:=wj (d:=d) (c:=λoff len=>some (.sl ((aX.drop off).take len))) (a3 i r av hr eS) (by simpa using cJ.1 KB r (bC hr));exact HV.later (cL _)
   ·obtain ⟨m1,m2⟩:=hm t;have e1:(S.put ({s with r:=lQ d s.tick s.r,b:=bk s.b d,tick:=s.tick+1}:S U.C) (some d) (.vc (vU s (fy parts.toList)))).look t=({s with r:=lQ d s.tick s.r,b:=bk s.b d,tick:=s.tick+1}:S U.C).look t:=by unfold S.look S.put;simp[aI,ht]
    have e2:((q.bP d el aX).cv d λoff len=>some (.sl ((aX.drop off).take len))).r t=ju d (q.g d+1) (λoff len=>some (.sl ((aX.drop off).take len))) (q.r t):=by simp only[St.cv,St.bP,ay _ _ (c5 ht),bA]
    rw[e1,e2];rcases m2 with m2|m2
    ·rw[m2]at m1⊢;exact(wj (hS.cr t) m1).later (cL _)
    ·rw[m2];exact .none _
  ·show pI P E T X (bk s.b d) _ _ (ao (bk s.b d) d') _;by_cases ZA:d=d'
   ·rw[aF,ap ZA];trivial
   ·have hb:=hS.boxes d';have e2:((q.bP d el aX).cv d λoff len=>some (.sl ((aX.drop off).take len))).b d'=(q.b d').map (To d (q.g d+1) λoff len=>some (.sl ((aX.drop off).take len))):=by simp only[St.cv,St.bP,Q1,ai (c5 ZA),ay _ _ (c5 ZA),bA]
    rw[aF,ai ZA,e2];cases hl:ao s.b d' with
    |none=>trivial|some x=>
     obtain⟨st,x⟩:=x;rw[hl]at hb;have hfr:=vY CO (t:=d') (st:=st) (x:=x) (by rw[aF,ai ZA];exact hl);cases x with
     |aT t e xs=>obtain⟨b1,b2⟩:=hb;exact⟨b1,by rw[b2];rfl⟩|cells u rs=>obtain⟨b1,b2,cs,b3,b4,b5⟩:=hb;refine⟨b1,b2,_,by rw[b3];rfl,by simpa using b4,λi r c' hr kA=>?_⟩;simp only[dd,ck]at kA;obtain⟨c0,Fc,rfl⟩:=kA;exact(wj (b5 i r c0 hr Fc) (eo.1 hfr r (bC hr))).later (cL _)
  ·simp only[S.put,aI]at hx⊢;split at hx
   ·simp only[ah,aS]at hx;omega
   ·rw[kW]at hx;simp only[ck]at hx;obtain⟨⟨jh,x'⟩,e1,e2⟩:=hx;split at e2
    ·simp only[aS]at e2;omega
    ·simp only[aS]at e2;have:=hS.Ci t jh x' e1;omega
  ·simp only[S.put]at hx⊢;rw[aF]at hx;split at hx
   ·cases hx
   ·have:=hS.Fw d' st x hx;omega
 ·cases h
include L in
theorem FA(hX:bG P E T X)(jk:∀e t,X.ty e=some t->P.cellsOf e<=256)(ax:aJ n o=true)(ho:o.op=.buildSlice e len parts)(h:iJ X kx esc fz o s K=some out):dQ P E T X w0 I0 n fz o s kx K out:=by
 unfold iJ at h
 simp only[ho]at h
 split at h
 ·rename_i d te el hd ht hle
  obtain⟨s',h,m1,m2,m3,m4⟩:=x8 (P:=P) (E:=E) (T:=T) (w0:=w0) (I0:=I0) (n:=n) hX _ fz s h
  suffices hs:dQ P E T X w0 I0 n fz o s' kx K out by
   cases fz with
   |false=>rw[m2 rfl]at hs;exact hs
   |true=>exact dQ.weaken m1 m4 hs
  clear m1 m2 m3 m4
  split at h
  ·rename_i xs iY
   cases hc:(Nat.beq parts.toList.length len&&decide (len<=65536))with
   |false=>rw[hc]at h;cases h
   |true=>
    rw[hc]at h
    simp only[ba]at h
    simp only[aD,az]at hc
    have hlen:=bM hc.1
    have hT:=hX.ty _ _ ht
    obtain⟨hu,hU⟩:=hT.elem te el rfl hle
    have je:=hX.ty _ _ hU
    obtain⟨q1,q2,q3⟩:=GB hX je.ok L _ _ _ iY
    refine zL hd (by simp[dS,hd,ho]) (by simp[turns,ho]) h hU λq hS K' L6=>?_
    have hz:nV P el=true:=by
     obtain⟨i,zv,g1,g2,g3,g4,_⟩:=je.zero
     simp only[nV,aD,az]
     refine⟨je.pos,?_⟩
     unfold zeroOf
     simp only[g1,g2]
     rw[ap (by rw[g3,g4];simp)]
     rfl
    refine mO ho ax hd (gn hu) hz (by rw[q1,hlen];exact (xr λa _=>mL a).trans (Kt _)) ?_ (q3 q hS λp hp=>bB ax ?_) (λy hy=>?_) L6
    ·have ah3:=jk _ _ hU
     calc len*P.cellsOf el<=65536*256:=Nat.mul_le_mul hc.2 ah3
      _=16777216:=rfl
    ·simp only[ho,Op.operands,y7,cK]
     simpa using⟨p.1,by simpa using hp⟩
    ·obtain ⟨z,_,rfl⟩:=cK.1 hy
     exact⟨by rw[dP L,je.cells],uA L z⟩
  ·cases h
 ·exact abk hX ax ho h
 ·cases h
end
section
variable{P:Program}{E:Env}{U:cm}{T:da U.C}{X:Ctx U}{w0:World}{I0:Cells}{n:Nat}{o:Oper}{s:S U.C}{q:St}{α:Type}{out:α}{fz:Bool}{kx:tz U->S U.C->Option α}{K:S U.C->Option α}{esc:List (Nat×Nat)}
variable(L:Lawful U T)
theorem DG.trans {s s':S U.C} {q q'':St} (h1:DG s q q') (h2:DG s' q' q'') (hS:aN P E T X s' q') (hd:∀d,ao s.b d=none->ao s'.b d=none) (hm:s'.m=s.m):DG s q q'':=by
 obtain⟨a1,a2,a3,a4,a5,a6⟩:=h1;obtain⟨b1,b2,b3,b4,b5,b6⟩:=h2;have gone:∀d,q'.b d=none->q''.b d=none:=λd e2=>by
  have:ao s'.b d=none:=by
   have h3:=hS.boxes d;cases hb:ao s'.b d with
   |none=>rfl|some x=>
    obtain⟨st,x⟩:=x;rw[hb]at h3;cases x with
    |cells u rs=>obtain ⟨_,_,cs,h4,_⟩:=h3;rw[e2]at h4;cases h4
    |aT t e xs=>obtain ⟨_,h4⟩:=h3;rw[e2]at h4;cases h4
  rw[b2 d this,e2]
 refine⟨λt=>?_,λd h=>by rw[b2 d (hd d h),a2 d h],by rw[b3,a3],λk i hk h=>?_,by rw[b5,a5],λd=>(a6 d).trans (b6 d)⟩
 ·rcases a1 t with e'|⟨d,gg,off,len,e1,e2,e3⟩
  ·rcases b1 t with e|⟨d,gg,off,len,e1,e2,e3⟩
   ·left;rw[e,e']
   ·right;exact ⟨d,gg,off,len,by rw[<-e',e1],λh=>e2 (hd d h),e3⟩
  ·right;exact ⟨d,gg,off,len,e1,e2,gone d e3⟩
 ·have e:=b4 k i hk (by rw[hm];exact h);have e':=a4 k i hk h;exact⟨by rw[e.1,e'.1],by rw[e.2,e'.2]⟩
theorem Fr.pV {s:S U.C} {q:St} (h:DG s q q') (hs:turns X s o.op=false->q'=q):Fr X s o q (q'.put o.dst u):=by
 obtain⟨a1,a2,a3,a4,a5,a6⟩:=h;have hr:∀t,o.dst≠some t->(q'.put o.dst u).r t=q'.r t:=λt ht=>by
  cases hd:o.dst with
  |none=>rfl|some d=>exact ay _ _ λe=>ht (by rw[hd,e])
 have hb:(q'.put o.dst u).b=q'.b/\(q'.put o.dst u).g=q'.g/\(q'.put o.dst u).a=q'.a/\(q'.put o.dst u).u=q'.u/\(q'.put o.dst u).df=q'.df:=by cases o.dst<;>exact ⟨rfl,rfl,rfl,rfl,rfl⟩
 obtain⟨b1,b2,b3,b4,b5⟩:=hb;refine⟨λt ht _=>by rw[hr t ht,b1];exact (a1 t).imp id λ⟨d,gg,off,len,e1,e2,e3⟩=>⟨d,gg,off,len,e1,e2,.inl e3⟩,λd hd _=>⟨by rw[b1];exact a2 d hd,by rw[b2,a3]⟩,λk i hk hm=>by rw[b3,b4];exact a4 k i hk hm,by rw[b5,a5],λd _=>⟨by rw[b1];exact a6 d,by rw[b2,a3]⟩,λht=>?_⟩;have:=hs ht;subst this;exact⟨b1,b2,b3,b4,hr⟩
theorem GC{U:cm}:∀{k:Nat}{fs:List Ty}{f off:Nat}{t:Ty},qN U k fs f=some (off,t)->t∈fs
 |k,[],f,off,t,h=>by cases f<;>simp[qN]at h
 |k,t'::fs,0,off,t,h=>by simp only[qN,ah,aS]at h;simp[h.2]|k,t'::fs,f+1,off,t,h=>by simp only[qN]at h;exact tF _ (GC h)
theorem mW:∀{qs:List br}{zs:List AV},cR qs=some zs↔qs.map bh=zs.map some
 |[],zs=>by cases zs<;>simp[cR]
 |r::qs,zs=>by
  cases zs with
  |nil=>simp only[cR,vB,eD,reduceCtorEq,iff_false];intro h;split at h<;>simp at h|cons z zs=>simp only[cR,eD,Gp];rw[<-mW (qs:=qs) (zs:=zs)];cases h1:bh r<;>cases h2:cR qs<;>simp
theorem tK{zs vs:List AV}(h:cR qs=some zs):cR (aR qs k (vs.map .val))=some (aR zs k vs):=by rw[mW]at h⊢;unfold aR;simp only[nN,pj,C8,h,cM,xq];rfl
theorem dL.aR {bx:List (Nat×Nat×B U.C)} {rs vs:List (R U.C)} {ws:List br} (h:dL P E T bx g tick rs qs) (h':dL P E T bx g tick vs ws):dL P E T bx g tick (Ev.aR rs k vs) (Ev.aR qs k ws):=by unfold Ev.aR;rw[h'.1];exact((h.take k).append h').append (h.drop _)
include L in
theorem zM(hX:bG P E T X){fs:List Ty}(hfs:fs.all fg=true){pl:List (Nat×Nat)}(xm:∀f off t,qN U 0 fs f=some (off,t)->pl[f]?=some (off,bj U D t)){K:S U.C->List (R U.C)->Option α}:
  ∀(l:List (Nat×Operand))(s:S U.C)(cs:List (R U.C)),((∃k,s.m k=true)->E.fixed=false)->Dm fz fs s l cs K=some out->(∀p∈l,bI p.2=true)->
  ∃s' qy,K s' qy=some out/\bu s s'/\(∀d,ao s.b d=none->ao s'.b d=none)/\∀q,aN P E T X s q->∃q' ps,j6 P E w0 I0 n q q'/\aN P E T X s' q'/\mE q q'/\(fz=false->DG s q q')/\((∀p∈l,kB (s.ev p.2)=false)->q'=q/\s'=s)/\partsOf q' pl l=some ps/\∀qs zc,dL P E T [] (λ_=>0) 0 cs qs->cR qs=some zc->∃Wz,dL P E T [] (λ_=>0) 0 qy Wz/\cR Wz=some (cW zc ps)
 |[],s,cs,hE,h,ho=>⟨s,cs,h,.refl s,λ_ h=>h,λq hS=>⟨q,[],.refl q,hS,.refl q,λ_=>.refl s q,λ_=>⟨rfl,rfl⟩,rfl,λqs zc h1 h2=>⟨qs,h1,h2⟩⟩⟩|(i,x)::l,s,cs,hE,h,ho=>by
  simp only[Dm]at h;split at h
  ·rename_i off t uS;have ax:fg t=true:=cJ.1 hfs t (GC uS);obtain⟨s1,v,h,qY,sF,KC,Jy⟩:=nu (w0:=w0) (I0:=I0) (n:=n) L hX hE (ho (i,x) (by simp)) h;obtain⟨s2,qy,h,B3,xh,Ww⟩:=zM hX hfs xm l s1 _ (by rw[qY.m];exact hE) h λp hp=>ho p (by simp[hp]);refine⟨s2,qy,h,qY.trans B3,λd hd=>xh d (sF d hd),λq hS=>?_⟩;obtain⟨q1,av,hv⟩:=Jy q hS;obtain⟨q2,ps,a1,a2,a3,a4,a5,a6,a7⟩:=Ww q1 hv.rel;have eS:=gm hv.Fz ax;subst eS;refine⟨q2,(off,enc T t v)::ps,hv.qi.trans a1,a2,hv.keeps.trans a3,λhf=>(hv.fr hf).trans (a4 hf) hv.rel sF qY.m,λhw=>?_,?_,λqs zc h1 h2=>?_⟩
   ·obtain ⟨e1,e2⟩:=hv.still (hw (i,x) (by simp));subst e1 e2;exact a5 λp hp=>hw p (by simp[hp])
   ·simp only[partsOf,xm _ _ _ uS,a3 x _ hv.E7,a6,dP L];simp
   ·simp only[cW];refine a7 _ _ ?_ (tK h2);rw[qV];exact h1.aR (iQ L D t v (iz L t) ax)
  ·cases h
theorem Bg(hT:kL P E T X e t){rs:List (R U.C)}(hz:pk U D t=some rs)(f:R U.C->R U.C)(hf:∀r v,(bn P E T [] (λ_=>0) 0 r (cf v)∨(v=.slice none 0 0/\bn P E T [] (λ_=>0) 0 r (.val .emp)))->bn P E T [] (λ_=>0) 0 (f r) (cf v)∨(v=.slice none 0 0/\bn P E T [] (λ_=>0) 0 (f r) (.val .emp))):∃qs zc,dL P E T [] (λ_=>0) 0 (rs.map f) qs/\cR qs=some zc/\ZC P e zc/\zc.length=rs.length:=by
 obtain⟨i,zv,g1,g2,g3,g4,g5,g6⟩:=hT.zero;obtain⟨g7,g8⟩:=g6 rs hz;have h1:∀(rs:List (R U.C))(vs:List Value),rs.length=vs.length->(∀v∈vs,v.oneCell'=true)->(∀(i:Nat)(r:R U.C)(v:Value),rs[i]?=some r->vs[i]?=some v->bn P E T [] (λ_=>0) 0 r (cf v)∨(v=.slice none 0 0/\bn P E T [] (λ_=>0) 0 r (.val .emp)))->
   ∃qs zc,dL P E T [] (λ_=>0) 0 rs qs/\cR qs=some zc/\zc.length=vs.length/\∀(j:Nat)(v:Value)(c:AV),vs[j]?=some v->zc[j]?=some c->JM v c:=by
  intro rs;induction rs with
  |nil=>intro vs hl _ _;cases vs with
   |nil=>exact ⟨[],[],.nil,rfl,rfl,λj v c h=>by simp at h⟩|cons v vs=>simp at hl
  |cons r rs ih=>
   intro vs hl oG hv;cases vs with
   |nil=>simp at hl|cons v vs=>
    obtain⟨qs,zc,b1,b2,b3,b4⟩:=ih vs (by simpa using hl) (λv hv=>oG v (by simp[hv])) λi r' v' h1 h2=>hv (i+1) r' v' (by simpa using h1) (by simpa using h2);have key:∀(u:br)(c:AV),bn P E T [] (λ_=>0) 0 r u->bh u=some c->JM v c->∃qs zc,dL P E T [] (λ_=>0) 0 (r::rs) qs/\cR qs=some zc/\zc.length=(v::vs).length/\∀(j:Nat)(v':Value)(c:AV),(v::vs)[j]?=some v'->zc[j]?=some c->JM v' c:=by
     intro u c hu hc hz;refine⟨u::qs,c::zc,.cons hu b1,by simp[cR,hc,b2],by simp[b3],λj v' c' h1 h2=>?_⟩;cases j with
     |zero=>simp at h1 h2;subst h1 h2;exact hz|succ j=>exact b4 j v' c' (by simpa using h1) (by simpa using h2)
    rcases hv 0 r v rfl rfl with h3|⟨h3,h4⟩
    ·refine key _ (dq v) h3 ?_ (.inl rfl);rw[AM (oG v (by simp))];unfold AL;split
     ·rename_i e;rw[e];rfl
     ·rfl
    ·exact key _ .emp h4 rfl (.inr ⟨h3,rfl⟩)
 have oG:∀v∈zv.cells.toList,v.oneCell'=true:=λv hv=>rq.1 g3 v (by simpa using hv);obtain⟨qs,zc,b1,b2,b3,b4⟩:=h1 (rs.map f) zv.cells.toList (by simpa using g7.symm) oG λj r v hr hv=>by
  simp only[dd,ck]at hr;obtain⟨r0,hr,rfl⟩:=hr;refine hf r0 v ?_;rcases g8 j r0 v hr (by simpa using hv)with h2|⟨h2,h3⟩
  ·exact .inl (h2 _ _ _)
  ·exact .inr ⟨h2,h3 _ _ _⟩
 refine⟨qs,zc,b1,b2,⟨i,zv,g1,g2,g3,g4,by simpa using b3,λj v c hv hc=>b4 j v c (by simpa using hv) hc⟩,?_⟩;rw[b3];simpa using g7
theorem DJ(hT:kL P E T X e t){rs:List (R U.C)}(hz:pk U D t=some rs):∃qs zc,dL P E T [] (λ_=>0) 0 rs qs/\cR qs=some zc/\ZC P e zc/\zc.length=rs.length:=by have:=Bg (P:=P) (E:=E) (X:=X) hT hz id λr v h=>h;rwa[Kt]at this
theorem KD(hT:kL P E T X e t){rs:List (R U.C)}(hz:pk U D t=some rs):∃qs zc,dL P E T [] (λ_=>0) 0 (rs.map OO) qs/\cR qs=some zc/\ZC P e zc/\zc.length=rs.length:=by
 refine Bg hT hz OO λr v h=>?_;unfold OO;split
 ·rename_i t';rcases h with h|⟨h1,h2⟩
  ·right;generalize hu:cf v=u at h;cases h with
   |full _ _ ho=>
    refine⟨?_,.emp _ ho⟩;unfold cf at hu;split at hu
    ·rfl
    ·cases hu
    ·cases hu
  ·cases h2
 ·exact h
theorem Nn{x:den U.C t}(h:mT P E T t x av)(hs:aL t=false):av.isAgg=false:=by
 cases t with
 |struct n=>cases hs
 |fn a b=>obtain ⟨f,caps,rfl,_⟩:=h;rfl|rJ a b=>obtain ⟨f,caps,rfl,_⟩:=h;rfl
 |mz a b=>obtain ⟨f,caps,rfl,_⟩:=h;rfl|J9 f t=>obtain ⟨_,rfl⟩:=h;rfl
 |zq k off=>obtain ⟨_,rfl⟩:=h;rfl|int k=>obtain ⟨_,rfl⟩:=h;rfl
 |bool=>obtain ⟨_,rfl⟩:=h;rfl|str=>obtain ⟨_,rfl⟩:=h;rfl
 |unit=>obtain ⟨h,_⟩:=h;cases h
 |list t=>obtain ⟨_,rfl⟩:=h;rfl|ref t=>obtain ⟨_,rfl⟩:=h;cases x<;>rfl
 |cell t=>obtain ⟨_,rfl⟩:=h;rfl|pair a b=>obtain ⟨h,_⟩:=h;cases h
 |ptr k=>obtain ⟨_,rfl⟩:=h;cases x<;>rfl
 |hs k=>obtain ⟨_,rfl⟩:=h;cases x<;>rfl
 |mp k=>obtain ⟨_,rfl⟩:=h;cases x<;>rfl
include L in
theorem TW(hX:bG P E T X)(hE:(∃k,s.m k=true)->E.fixed=false)(ax:aJ n o=true)(ho:o.op=.build e parts)(h:iJ X kx esc fz o s K=some out):dQ P E T X w0 I0 n fz o s kx K out:=by
 unfold iJ at h;simp only[ho]at h;split at h
 ·rename_i m ht;have hT:=hX.ty _ _ ht;have aep:∀p∈parts.toList,bI p.2=true:=λp hp=>bB ax (by simp only[ho,Op.operands,y7,cK];simpa using⟨p.1,by simpa using hp⟩);cases hfn:((X.mq e).isSome&&(Nat.beq parts.toList.length (U.fields m).length&&(AZ parts.toList 0&&(vU s (fy parts.toList)).all Q7)))with
  |true=>
   rw[hfn]at h;simp only[ba]at h;simp only[aD]at hfn;obtain⟨ha,hlen,JN,cY⟩:=hfn;have hlen:=bM hlen;obtain⟨el,jk⟩:=CG.1 ha;obtain⟨N,hu,hc,Jw,hN⟩:=hX.mq e el jk;obtain⟨hl,hnc,_⟩:=hN m ht;refine bS h λq hS=>?_;obtain⟨aX,a1,a2,a3,a4⟩:=It parts.toList aep cY q hS;obtain⟨i,zv,g1,g2,g3,g4,_⟩:=hT.zero;have dh:zv.cells.size=N:=by rw[g4,<-hnc,<-hT.cells];unfold Program.cellsOf;rw[g1];rfl
   have hal:aX.length=N:=by have:=(nn a1).1;simp only[cM]at this;omega
   have xm:placesOf P e=some ((List.range N).map λj=>(j*P.cellsOf el,P.cellsOf el)):=by unfold placesOf;simp only[hu];rw[ap (by omega)]
   have n4:∀(i:Nat)(av:AV),aX[i]?=some av->av.cells=[av]:=λi av eS=>(a4 i av eS).2;have hz:ZC P e (zv.cells.toList.map dq):=⟨i,zv,g1,g2,g3,g4,by simp,λj v c hv hc=>by simp only[dd,iW,hv,bQ,ah]at hc;exact .inl hc.symm⟩
   have abl:∀(l:List (Nat×Operand))(j:Nat)(yb:List AV),AZ l j=true->bK q (l.map (·.2))=some yb->j+l.length<=N->(∀(i:Nat)(av:AV),yb[i]?=some av->av.cells=[av])->∃ps,partsOf q ((List.range N).map λj=>(j*P.cellsOf el,P.cellsOf el)) l=some ps/\∀zs:List AV,zs.length=N->cW zs ps=zs.take j++yb++zs.drop (j+yb.length):=by
    intro l;induction l with
    |nil=>intro j yb _ h1 _ _;simp only[vB,bK,ah]at h1;subst h1;exact⟨[],rfl,λzs _=>by simp[cW]⟩|cons p l ih=>
     intro j yb hi h1 hj jl;obtain⟨i,x⟩:=p;simp only[AZ,aD]at hi;have e:=bM hi.1;subst e;simp only[eD,bK]at h1;split at h1
     ·rename_i av r eS hr;simp only[ah]at h1;subst h1;simp only[dE]at hj;obtain⟨ps,p1,p2⟩:=ih (i+1) r hi.2 hr (by omega) λk TH hk=>jl (k+1) TH (by simpa using hk);have Fc:=jl 0 av rfl;refine⟨(i,av)::ps,?_,λzs Fg=>?_⟩
      ·simp only[partsOf,eS,p1];have:((List.range N).map λj=>(j*P.cellsOf el,P.cellsOf el))[i]?=some (i,1):=by simp[hc,show i<N by omega]
       simp[this,Fc]
      ·simp only[cW,Fc];rw[p2 _ (by rw[bw (by simp;omega)];exact Fg)];have hle:i<zs.length:=by omega
       unfold aR;simp only[OZ,dE,kS,cS];rw[show List.take (i+1) (List.take i zs++[av]++List.drop (i+1) zs)=List.take i zs++[av] by rw[List.take_append_of_le_length (by simp;omega)];exact cV (by simp;omega)];rw[show List.drop (i+1+r.length) (List.take i zs++[av]++List.drop (i+1) zs)=List.drop (i+(r.length+1)) zs by rw[List.drop_append];rw[List.drop_eq_nil_of_le (by simp;omega)];simp only[pq,kR,my,OZ,Kl];congr 1;omega];simp
     ·cases h1
   obtain⟨ps,p1,p2⟩:=abl parts.toList 0 aX JN a1 (by omega) n4;have hw:=p2 (zv.cells.toList.map dq) (by simp[dh]);simp only[vG,pq,cS]at hw;rw[List.drop_eq_nil_of_le (by simp[dh,hal]),GD]at hw;have hy:dm P E w0 I0 n o q (.val (.agg aX)):=by have:=pO (E:=E) (w0:=w0) (I0:=I0) (n:=n) ho ax xm hz (by simp[dh,hc];omega) p1;rwa[hw]at this
   exact⟨_,hy,.agg m _ aX a2 a3 λi av eS=>(a4 i av eS).1⟩
  |false=>
  rw[hfn]at h;simp only[bc]at h;split at h
  ·rename_i cs hz;obtain⟨pl,FV,hp2⟩:=hT.TG m rfl;have Re:∀p∈parts.toList,bI p.2=true:=λp hp=>bB ax (by simp only[ho,Op.operands,y7,cK];simpa using⟨p.1,by simpa using hp⟩);split at h
   ·obtain ⟨s',qy,h,hm,hd,hq⟩:=zM (w0:=w0) (I0:=I0) (n:=n) L hX (L.ok m) hp2 _ _ _ hE h Re;replace h:=aq h;obtain⟨Jw,h⟩:=h;refine .one _ h (hm.trans (bd _ _)) λq hS=>?_;obtain⟨q',ps,a1,a2,a3,a4,a5,a6,a7⟩:=hq q hS;obtain⟨qs,zc,b1,b2,b3,b4⟩:=KD hT hz;obtain⟨Wz,c1,c2⟩:=a7 qs zc b1 b2;have hy:dm P E w0 I0 n o q' (.val (.agg (cW zc ps))):=by refine pO ho ax FV b3 ?_ a6;have:=hT.xV m rfl pl FV;rw[b4,mV D _ cs (iz L _) hz];exact this
    have hlen:qy.length=(cW zc ps).length:=by have:=dK List.length (mW.1 c2);simp only[cM]at this;rw[c1.1,this]
    have jm:∀(i:Nat)(r:R U.C)(av:AV),qy[i]?=some r->(cW zc ps)[i]?=some av->(∀bx g tick,bn P E T bx g tick r (.val av))/\av.isAgg=false:=λi r av hr eS=>by
     have h1:(Wz.map bh)[i]?=some (some av):=by rw[mW.1 c2,dd,eS];rfl
     simp only[dd,ck]at h1;obtain⟨u,hu,hua⟩:=h1;have h2:=c1.2 i r u hr hu;have h3:=cJ.1 Jw r (bC hr);cases h2 with
     |val t x _ TH zF MH=>rw[hua]at zF;cases zF;exact⟨λbx g tick=>.val t x _ av rfl MH,Nn MH (by simpa[ZQ]using h3)⟩
     |emp t ho=>simp only[bh,ah]at hua;subst hua;exact⟨λbx g tick=>.emp t ho,rfl⟩|_=>cases h3
    have eK:∀(i:Nat)(av:AV),(cW zc ps)[i]?=some av->∃r,qy[i]?=some r:=λi av eS=>⟨_,cq (by rw[hlen];exact (aV.1 eS).1)⟩
    refine a1.sound (gI _ ⟨a2.put o.dst (.agg m qy _ hlen (λi r av hr eS=>(jm i r av hr eS).1 _ _ _) λi av eS=>?_),λhf=>.pV (a4 hf) λht=>?_⟩ hy)
    ·obtain ⟨r,hr⟩:=eK i av eS;exact(jm i r av hr eS).2
    ·refine (a5 λp hp=>?_).1;simp only[ho,turns,Bh]at ht;simpa using ht p hp
   obtain⟨s',qy,h,hm,hd,hq⟩:=zM (w0:=w0) (I0:=I0) (n:=n) L hX (L.ok m) hp2 _ _ _ hE h Re;split at h
   ·rename_i v rest hv;refine .one _ h (hm.trans (bd _ _)) λq hS=>?_;obtain⟨q',ps,a1,a2,a3,a4,a5,a6,a7⟩:=hq q hS;obtain⟨qs,zc,b1,b2,b3,b4⟩:=DJ hT hz;obtain⟨Wz,c1,c2⟩:=a7 qs zc b1 b2;have hy:dm P E w0 I0 n o q' (.val (.agg (cW zc ps))):=by refine pO ho ax FV b3 ?_ a6;have:=hT.xV m rfl pl FV;rw[b4,mV D _ cs (iz L _) hz];exact this
    have he:AV.agg (cW zc ps)=enc T (.struct m) v:=by
     obtain⟨_,d2,d3⟩:=iA L D (.struct m) qy Wz v rest (iz L _) hT.ok c1 hv;have hlen:Wz.length=bj U D (.struct m):=by
      have e1:(cW zc ps).length=zc.length:=by
       have:=hT.xV m rfl pl FV;have key:∀(l:List (Nat×Operand))(ps:List (Nat×AV))(zs:List AV),partsOf q' pl l=some ps->zs.length=bj U D (.struct m)->(cW zs ps).length=zs.length:=by
        intro l;induction l with
        |nil=>intro ps zs hp _;simp only[partsOf,ah]at hp;subst hp;rfl|cons p l ih=>
         intro ps zs hp hz;obtain⟨i,x⟩:=p;simp only[partsOf]at hp;split at hp
         ·rename_i off sz w r h1 h2 h3;split at hp
          ·rename_i hw;simp only[ah]at hp;subst hp;have qu:off+sz<=bj U D (.struct m):=by have:=cJ.1 this (off,sz) (bC h1);simpa using this
           have hl:(aR zs off w.cells).length=zs.length:=bw (by omega);simp only[cW];rw[ih r _ h3 (by rw[hl,hz]),hl]
          ·cases hp
         ·cases hp
       exact key _ _ _ a6 (by rw[b4,mV D _ cs (iz L _) hz])
      have e2:=dK List.length (mW.1 c2);simp only[cM]at e2;rw[e2,e1,b4,mV D _ cs (iz L _) hz]
     rw[<-hlen,DD,c2]at d3;simp only[ah]at d3;rw[d3];exact jQ v rfl
    rw[he]at hy;refine a1.sound (gI _ ⟨a2.put o.dst (aY hT.ok),λhf=>.pV (a4 hf) λht=>?_⟩ hy);refine(a5 λp hp=>?_).1;simp only[ho,turns,Bh]at ht;simpa using ht p hp
   ·cases h
  ·cases h
 ·cases h
end
end Go.X
namespace Go.X
open Go Go.Ev Go.MapKept
variable{e:TypeId}{k:Nat}{t:Ty}
section
variable{P:Program}{E:Env}{U:cm}{T:da U.C}{X:Ctx U}{w0:World}{I0:Cells}{n:Nat}{o:Oper}{s:S U.C}{q:St}{α:Type}{out:α}{fz:Bool}{kx:tz U->S U.C->Option α}{K:S U.C->Option α}{esc:List (Nat×Nat)}
variable(L:Lawful U T)
include L in
theorem Bi(hT:kL P E T X e t){z:den U.C t}(hz:Gi U t=some z):ZC P e (enc T t z).cells:=by
 unfold Gi at hz;split at hz
 ·rename_i z' rest hu;simp only[ah]at hz;subst hz;obtain⟨rs,rP,hu⟩:=bind_some hu;obtain⟨qs,zc,b1,b2,b3,b4⟩:=DJ hT rP;obtain⟨_,d2,d3⟩:=iA L D t rs qs z' rest (iz L _) hT.ok b1 hu;have hlen:qs.length=bj U D t:=by rw[<-b1.1];exact mV D _ rs (iz L _) rP
  rw[<-hlen,DD,b2]at d3;simp only[ah]at d3;rw[<-d3];exact b3
 ·cases hz
include L in
theorem DK:∀(k:Nat)(t:Ty)(x:den U.C t),eW U k t=true->((im U k t).all λ|.hs _=>false|_=>true)=true->∀c∈(enc T t x).cells,c≠.emp
 |k,t,x,hd,hf,c,hc=>by
  by_cases hs:aL t=true
  ·cases t with
   |struct m=>
    cases k with
    |zero=>simp[eW]at hd|succ k=>
     simp only[eW,cJ]at hd;have key:∀(ts:List Ty)(y:HL U.C ts),(∀t∈ts,eW U k t=true)->((kV (im U k) ts).all λ|.hs _=>false|_=>true)=true->∀c∈lx T ts y,c≠.emp:=by
      intro ts;induction ts with
      |nil=>intro y _ _ c hc;simp[lx]at hc|cons t ts ih=>
       intro y h h2 c hc;simp only[kV,List.all_append,aD]at h2;simp only[lx]at hc;rcases dt.1 hc with hc|hc
       ·exact DK k t _ (h t (by simp)) h2.1 c hc
       ·exact ih _ (λt ht=>h t (by simp[ht])) h2.2 c hc
     simp only[enc,AV.cells]at hc;rw[L.cells]at hc;exact key _ (U.un m x) hd hf c hc
   |_=>simp[aL]at hs
  ·have hs:aL t=false:=by simpa using hs
   rw[jN hs]at hc;simp only[mX]at hc;subst hc;have:(match t with|.hs _=>false|_=>true)=true:=by cases t<;>first|(simp[aL]at hs;done)|(cases k<;>simp[im]at hf<;>first|rfl|exact hf)
   cases t<;>first|(simp[aL]at hs;done)|(cases this;done)|(intro h;cases h;done)|skip
   all_goals
    change Option _ at x;cases x<;>(intro h;cases h)
include L in
theorem KE(hT:kL P E T X e t){z:den U.C t}(hn:Xf U t=true)(hz:Gi U t=some z):zeroOf P e=some (enc T t z):=by
 obtain⟨i,zv,h1,h2,h3,h4,h5,h6⟩:=Bi L hT hz;have dA:=DK L D t z (iz L t) hn;have hc:(enc T t z).cells=zv.cells.toList.map dq:=by
  refine uX λj=>?_;have e0:zv.cells.toList[j]?=zv.cells[j]?:=by simp
  rw[dd,e0];cases hj:zv.cells[j]? with
  |none=>
   have:zv.cells.size<=j:=by simpa using hj
   rw[jW,Bc (by rw[h5];exact this)]
  |some v=>
   have eK:j<zv.cells.size:=by
    rcases th j zv.cells.size with h|h
    ·exact h
    ·rw[F0 h]at hj;cases hj
   have:(enc T t z).cells[j]?=some ((enc T t z).cells[j]'(by rw[h5];exact eK)):=cq _;rw[this,bQ];congr 1;rcases h6 j v _ hj this with h|⟨_,h⟩
   ·exact h
   ·exact absurd h (dA _ (fx _))
 have hzo:zeroOf P e=some (kG zv):=by unfold zeroOf;rw[h1];simp only;rw[h2];simp only;exact ap (by rw[h3,h4];simp)
 rw[hzo];congr 1;cases hs:aL t with
 |false=>obtain⟨e1,e2⟩:=hT.zv1 hs i zv h1 h2;rw[e2];rw[jN hs,e1]at hc;simpa using hc.symm|true=>obtain⟨i',zv',g1,g2,g3,g4,g5,g6⟩:=hT.zero;rw[h1]at g1;cases g1;rw[h2]at g2;cases g2;obtain⟨cs,rfl⟩:=g5 hs;rw[<-jQ z hs,hc];rfl
include L in
theorem Iu(hX:bG P E T X)(ax:aJ n o=true){m m':Operand}(ho:o.op=.makeSlice e m m')(h:iJ X kx esc fz o s K=some out):dQ P E T X w0 I0 n fz o s kx K out:=by
 have hm:m∈o.op.operands:=by simp[ho,Op.operands]
 have oF:m'∈o.op.operands:=by simp[ho,Op.operands]
 unfold iJ at h;simp only[ho]at h;split at h
 ·rename_i d te el k hd ht hle hk Jz;have hT:=hX.ty _ _ ht;obtain⟨hu,hU⟩:=hT.elem te el rfl hle;have je:=hX.ty _ _ hU;split at h
  ·rename_i z hz;obtain⟨_,hc,h⟩:=bind_some h;have hc:=dx hc;simp only[fits,aD,az]at hc;obtain⟨⟨pW,Fc⟩,sP,vD⟩:=hc;refine zL hd (by simp[dS,hd,ho]) (by simp[turns,ho]) h hU λq hS K' L6=>?_;obtain⟨i,zv,g1,g2,g3,g4,g5⟩:=kT (KE L je pW hz);obtain⟨k1,JX⟩:=lW (hS.fH ax hm) hk;have Iv:∃k2,q.ev m'=.val (.fl (.int k2 k)):=by
    split at Jz
    ·rename_i a b;obtain rfl:=bM Jz;exact⟨k1,JX⟩
    ·rename_i j a j' b;obtain rfl:=eF Jz;have:s.ev (.const (.int j a))=.const (.int j a):=rfl;rw[this]at hk;simp only[Ft,ah]at hk;subst hk;exact⟨_,rfl⟩
    ·cases Jz
   obtain⟨k2,Iv⟩:=Iv;refine sj ho ax hd hu g1 g2 g4 g3 je.pos JX Iv Fc sP (by rw[<-je.bytes];exact vD) ?_;rw[List.map_replicate,g5]at L6;exact L6
  ·cases h
 ·cases h
theorem TX(hX:bG P E T X)(ax:aJ n o=true){x:Operand}(ho:o.op=.panic x)(h:iJ X kx esc fz o s K=some out):dQ P E T X w0 I0 n fz o s kx K out:=by
 have hx:x∈o.op.operands:=by simp[ho,Op.operands]
 unfold iJ at h;simp only[ho]at h;split at h
 ·rename_i e t v hp;have Xv:∀q,aN P E T X s q->fg t=true/\q.ev x=.val (.mI e (enc T t v)):=λq hS=>by
   have hr:=hS.fH ax hx;rw[hp]at hr;generalize q.ev x=u at hr;cases hr with
   |mI _ _ _ h=>exact ⟨h,rfl⟩
  exact .cG _ _ h (.refl s) λq hS=>⟨(Xv q hS).1,AN ho ax (Xv q hS).2 ⟨hS,rfl⟩⟩
 ·cases h
include L in
theorem No(hX:bG P E T X)(ax:aJ n o=true){e':TypeId}{x:Operand}(ho:o.op=.convert e e' x)(h:iJ X kx esc fz o s K=some out):dQ P E T X w0 I0 n fz o s kx K out:=by
 have hx:x∈o.op.operands:=by simp[ho,Op.operands]
 unfold iJ at h;simp only[ho]at h;split at h
 ·rename_i k k' ht ot;split at h
  ·rename_i m hm;refine bS h (mC ax λq hS=>?_);obtain⟨k2,Iv⟩:=lW (hS.fH ax hx) hm;unfold ff;simp only[ho,Iv,Tg,(hX.ty _ _ ht).int k rfl,(hX.ty _ _ ot).int k' rfl];exact aY (t:=.int k') rfl
  ·cases h
 ·rename_i ht ot;split at h
  ·rename_i v hv;obtain⟨_,hc,h⟩:=bind_some h;have hc:=dx hc;simp only[az]at hc;have hT':=hX.ty _ _ ot;obtain⟨el,hu,jk⟩:=hT'.list _ rfl;refine .one _ h (bd _ _) λq hS=>?_;have hq:=dp (cX (hS.fH ax hx) hv rfl);refine AJ ho ax ((hX.ty _ _ ht).str rfl) hu ((hX.ty _ _ jk).int .u8 rfl) hq hc ⟨?_,λ_=>.pV (.refl s q) λ_=>rfl⟩;have:bn P E T s.b q.g s.tick (.val (.list (.int .u8)) (List.map (λc:UInt8=>(c.toNat:Int)) v)) (.val (.sl (nq v))):=by have:=aY (P:=P) (E:=E) (T:=T) (bx:=s.b) (g:=q.g) (tick:=s.tick) (t:=.list (.int .u8)) (x:=List.map (λc:UInt8=>(c.toNat:Int)) v) rfl;simp only[enc,xq]at this;exact this
   exact hS.put o.dst this
  ·cases h
 ·cases h
include L in
theorem O0{a:AK}(hS:aN P E T X s q)(hk:k<U.nk)(hm:s.m k=true){l:List (zu U.C a)}(hg:vQ U a k s.h=some l){x:zu U.C a}{h':U.C 0}(hs:BZ U a k s.h (l++[x])=some h'){ob:Ob}(hob:Dz T a x=some ob){r:R U.C}{u:br}(hr:∀bx g tick,bn P E T bx g tick r u)(dst:Option Nat):
  q.u (dk k l.length)=false/\aN P E T X (({s with h:=h',hv:=s.tick,tick:=s.tick+1}:S U.C).put dst r) ((q.lay (dk k l.length) ob).put dst u):=by
 obtain⟨p1,p2,p3⟩:=hS.heap.push L hk hm hg hs;refine⟨p2,?_⟩;have hH:fa T s.m h' (bF q.a (dk k l.length) (some ob)) (bF q.u (dk k l.length) true):=by rw[<-hob];exact p3 _ λj hj=>ay _ _ hj
 exact(hS.tH (hv:=s.tick) (cL _) hH).put dst (hr _ _ _)
include L in
theorem DG.lay {q q1:St} (h:DG s q q1) {j:Nat} (hk:k<U.nk) (hm:s.m k=true) (ob:Ob):DG s q (q1.lay (dk k j) ob):=by
 obtain⟨a1,a2,a3,a4,a5,a6⟩:=h;refine⟨a1,a2,a3,λk' i fM oF=>?_,a5,a6⟩;have dA:dk k' i≠dk k j:=λe=>by obtain⟨rfl,_⟩:=iO L fM hk e;rw[hm]at oF;cases oF
 obtain⟨e1,e2⟩:=a4 k' i fM oF;exact⟨by rw[<-e1];exact ay _ _ dA,by rw[<-e2];exact ay _ _ dA⟩
include L in
theorem Np(hX:bG P E T X)(hE:(∃k,s.m k=true)->E.fixed=false)(ho:o.op=.makeMap e none)(h:iJ X kx esc fz o s K=some out):dQ P E T X w0 I0 n fz o s kx K out:=by
 unfold iJ at h;simp only[ho]at h;split at h
 ·rename_i k hk;split at h
  ·rename_i kt vt Cj;split at h
   ·rename_i l hl;split at h
    ·rename_i h' jV;obtain⟨⟨hm,hk⟩,hg⟩:=zI hl;obtain⟨_,hs⟩:=x6 jV;refine .one _ h ((rO _).trans (bd _ _)) λq hS=>?_;obtain⟨p1,p2⟩:=O0 L hS hk hm hg (x:=([]:List (den U.C kt×den U.C vt))) hs (ob:=.map []) rfl (r:=.val (.mp k) (some l.length)) (u:=.val (.mp (dk k l.length))) (λ_ _ _=>.val (.mp k) _ _ _ rfl ⟨rfl,rfl⟩) o.dst;exact HR ho (hE ⟨k,hm⟩) p1 ⟨p2,λ_=>Fr.pV (DG.lay L (.refl s q) hk hm _) λht=>by simp[turns,ho]at ht⟩
    ·cases h
   ·cases h
  ·cases h
 ·cases h
include L in
theorem O1(hE:(∃k,s.m k=true)->E.fixed=false){v:den U.C t}(h:Xg s o.dst k t v K=some out):
  ∃s' i,K s'=some out/\bu s s'/\E.fixed=false/\(∃k j,i=dk k j/\k<U.nk/\s.m k=true)/\∀q,aN P E T X s q->q.u i=false/\aN P E T X s' ((q.lay i (.cells (enc T t v).cells)).put o.dst (.val (.ptr i 0))):=by
 unfold Xg at h;split at h
 ·rename_i l hl;split at h
  ·rename_i h' jV;obtain⟨⟨hm,hk⟩,hg⟩:=Gs hl;obtain⟨_,hs⟩:=x5 jV;refine⟨_,dk k l.length,h,(rO _).trans (bd _ _),hE ⟨k,hm⟩,⟨k,_,rfl,hk,hm⟩,λq hS=>?_⟩;exact O0 L hS hk hm hg (x:=v) hs (ob:=.cells (enc T t v).cells) rfl (r:=.val (.ptr k) (some l.length)) (u:=.val (.ptr (dk k l.length) 0)) (λ_ _ _=>.val (.ptr k) _ _ _ rfl ⟨rfl,rfl⟩) o.dst
  ·cases h
 ·cases h
include L in
theorem Rg(hX:bG P E T X)(hE:(∃k,s.m k=true)->E.fixed=false)(ho:o.op=.alloc e)(ya:pT esc o.dst=some k)(h:iJ X kx esc fz o s K=some out):dQ P E T X w0 I0 n fz o s kx K out:=by
 unfold iJ at h;simp only[ho,ya]at h;split at h
 ·rename_i t hk;split at h
  ·rename_i z t' hz ht;obtain⟨L7,h⟩:=aq h;obtain rfl:=eF L7;obtain⟨s',i,h1,h2,h3,⟨k2,j2,e2,Iv,B3⟩,h4⟩:=O1 (P:=P) (X:=X) L hE h;exact .one _ h1 h2 λq hS=>Db ho h3 (h4 q hS).1 (Bi L (hX.ty _ _ ht) hz) ⟨(h4 q hS).2,λ_=>Fr.pV (by rw[e2];exact DG.lay L (.refl s q) Iv B3 _) λht=>by simp[turns,ho]at ht⟩
  ·cases h
 ·cases h
include L in
theorem Xz(hX:bG P E T X)(hE:(∃k,s.m k=true)->E.fixed=false)(ax:aJ n o=true){x:Operand}(ho:o.op=.box e x)(ya:pT esc o.dst=some k)(h:iJ X kx esc fz o s K=some out):dQ P E T X w0 I0 n fz o s kx K out:=by
 have hx:x∈o.op.operands:=by simp[ho,Op.operands]
 unfold iJ at h;simp only[ho,ya]at h;split at h
 ·rename_i t hk;obtain⟨s1,v,h,hm,hd,ku,hq⟩:=nu (w0:=w0) (I0:=I0) (n:=n) L hX hE (bB ax hx) h;obtain⟨s',i,h1,h2,h3,⟨k2,j2,e2,Iv,B3⟩,h4⟩:=O1 (P:=P) (X:=X) L (by rw[hm.m];exact hE) h;refine .one _ h1 (hm.trans h2) λq hS=>?_;obtain⟨q1,av,hv⟩:=hq q hS;have eS:=gm hv.Fz (hX.obj _ _ hk);subst eS;exact hv.qi.sound (HQ ho ax h3 (h4 q1 hv.rel).1 hv.E7 ⟨(h4 q1 hv.rel).2,λhf=>Fr.pV (by rw[e2];exact DG.lay L (hv.fr hf) Iv (by rw[<-hm.m];exact B3) _) λht=>by simp[turns,ho]at ht⟩)
 ·cases h
end
section
variable{P:Program}{E:Env}{U:cm}{T:da U.C}{X:Ctx U}{w0:World}{I0:Cells}{n:Nat}{o:Oper}{s:S U.C}{q:St}{α:Type}{out:α}{fz:Bool}{kx:tz U->S U.C->Option α}{K:S U.C->Option α}{esc:List (Nat×Nat)}
variable(L:Lawful U T)
theorem TY(hT:kL P E T X e t)(hf:zA t=true):∃d,P.underlying e=some d/\∀x:den U.C t,∃v,enc T t x=.fl v/\IsKey d v/\One v/\∀y:den U.C t,∃v',enc T t y=.fl v'/\Instr.sameNow d v v'=some (iN t x y):=by
 cases t with
 |int k=>exact ⟨_,hT.int k rfl,λx=>⟨_,rfl,rfl,rfl,λy=>⟨_,rfl,by simp[Instr.sameNow,iN]⟩⟩⟩|bool=>exact ⟨_,hT.bool rfl,λx=>⟨_,rfl,trivial,rfl,λy=>⟨_,rfl,by simp[Instr.sameNow,iN]⟩⟩⟩
 |str=>refine⟨_,hT.str rfl,λx=>⟨_,rfl,trivial,rfl,λy=>⟨_,rfl,?_⟩⟩⟩;simp only[bs,Instr.sameNow,iN,eqStr,ah];rw[Bj,bytes_beq,fc];simp|_=>cases hf
theorem DL{d:TypeDesc}{a b:Ty}{key:den U.C a}{vk:Value}(hk:∀y:den U.C a,∃v',enc T a y=.fl v'/\Instr.sameNow d vk v'=some (iN a key y))(hvk:enc T a key=.fl vk)(w:den U.C b):∀(es:List (den U.C a×den U.C b))(i:Nat),
  ∃r,xM d vk (es.map λp=>(enc T a p.1,enc T b p.2)) i=some r/\match aZ (iN a) es key with
   |some v=>∃j,r=some (j,enc T b v)/\i<=j/\(jy (iN a) es key w).map (λp=>(enc T a p.1,enc T b p.2))=(es.map λp=>(enc T a p.1,enc T b p.2)).set (j-i) (.fl vk,enc T b w)|none=>r=none/\(jy (iN a) es key w).map (λp=>(enc T a p.1,enc T b p.2))=(es.map λp=>(enc T a p.1,enc T b p.2))++[(.fl vk,enc T b w)]
 |[],i=>⟨none,rfl,rfl,by simp[jy,hvk]⟩|(y,v)::es,i=>by
  obtain⟨v',h1,h2⟩:=hk y;simp only[eD,h1,xM,h2,aZ,jy];cases hc:iN a key y with
  |true=>refine⟨_,rfl,?_⟩;simp only[ba];exact⟨i,rfl,aP _,by simp[hvk]⟩|false=>
   obtain⟨r,h3,h4⟩:=DL hk hvk w es (i+1);refine⟨r,h3,?_⟩;simp only[bc];split at h4
   ·rename_i v2 TZ;obtain⟨j,h5,h6,h7⟩:=h4;refine⟨j,h5,by omega,?_⟩;rw[eD,h7,h1,show j-i=(j-(i+1))+1 by omega,List.set_cons_succ]
   ·rename_i TZ;refine⟨h4.1,?_⟩;rw[eD,h4.2,h1,ou]
include L in
theorem Rh(hX:bG P E T X)(ax:aJ n o=true){x i:Operand}{ok:Bool}(ho:o.op=.lookup e x i ok)(h:iJ X kx esc fz o s K=some out):dQ P E T X w0 I0 n fz o s kx K out:=by
 have hx:x∈o.op.operands:=by simp[ho,Op.operands]
 have hi:i∈o.op.operands:=by simp[ho,Op.operands]
 unfold iJ at h;simp only[ho]at h;split at h
 ·rename_i m' ht;unfold ON at h;split at h
  ·rename_i m p hp;obtain⟨Jz,h⟩:=aq h;obtain rfl:=bM Jz;split at h
   ·rename_i kt vt Cj;split at h
    ·rename_i l key z hl abm hz;obtain⟨es,ZT,h⟩:=bind_some h;obtain⟨ka,kb,hu,ta,tb,h1,h2,h3,h4⟩:=(hX.ty _ _ ht).mp _ rfl;rw[Cj]at h1;simp only[AK.map.injEq]at h1;obtain⟨rfl,rfl⟩:=h1;obtain⟨Gy,XA⟩:=hX.map _ _ _ Cj;obtain⟨d,hd,hkk⟩:=TY (hX.ty _ _ h2) Gy;obtain⟨vk,k1,k2,k3,k4⟩:=hkk key;obtain⟨r,r1,r2⟩:=DL (b:=vt) k4 k1 z es 0;have Se:(r.map (·.2)).getD (enc T vt z)=enc T vt ((aZ (iN kt) es key).getD z)/\r.isSome=(aZ (iN kt) es key).isSome:=by
      split at r2
      ·rename_i v hv;obtain⟨j,rfl,_⟩:=r2;simp[hv]
      ·rename_i hv;obtain⟨rfl,_⟩:=r2;simp[hv]
     have hy:∀q,aN P E T X s q->dm P E w0 I0 n o q (if ok then .fb [.val (enc T vt ((aZ (iN kt) es key).getD z)),.val (.fl (.bool (aZ (iN kt) es key).isSome))]else .val (enc T vt ((aZ (iN kt) es key).getD z))):=λq hS=>by
      have hkq:q.ev i=.val (.fl vk):=by have:=cX (hS.fH ax hi) abm ((hX.ty _ _ h2).ok);rw[k1]at this;exact dp this
      have:=HS (E:=E) (w0:=w0) (I0:=I0) ho ax hu hd (Kw hl ZT hp q hS (hS.fH ax hx)) hkq k2 r1 (KE L (hX.ty _ _ h3) h4 hz);rw[Se.1,Se.2]at this;exact this
     cases ok with
     |true=>
      refine bS h λq hS=>⟨_,hy q hS,?_⟩
      simp only[bp];have hR:dL P E T s.b q.g s.tick [.val vt ((aZ (iN kt) es key).getD z),.val .bool (aZ (iN kt) es key).isSome] [.val (enc T vt ((aZ (iN kt) es key).getD z)),.val (.fl (.bool (aZ (iN kt) es key).isSome))]:=.cons (aY XA) (.cons (aY (t:=.bool) rfl) .nil);exact .fb _ _ hR.1 hR.2
     |false=>
      refine bS h λq hS=>⟨_,hy q hS,?_⟩
      simp only[gB,bY];exact aY XA
    ·cases h
   ·cases h
  ·cases h
 ·cases h
include L in
theorem DM(hX:bG P E T X)(hw:X.wr=true)(hE:(∃k,s.m k=true)->E.fixed=false)(ax:aJ n o=true){x y z:Operand}(ho:o.op=.mapUpdate e x y z∨o.op=.insert e x y z)(kg:o.dst=none){m':Nat}(ht:X.ty e=some (.mp m'))(h:Cg fz s m' (s.ev x) (s.ev y) (s.ev z) K=some out):dQ P E T X w0 I0 n fz o s kx K out:=by
 have hx:x∈o.op.operands:=by rcases ho with ho|ho<;>simp[ho,Op.operands]
 have hy:y∈o.op.operands:=by rcases ho with ho|ho<;>simp[ho,Op.operands]
 have hz:z∈o.op.operands:=by rcases ho with ho|ho<;>simp[ho,Op.operands]
 have uU:turns X s o.op=true:=by rcases ho with ho|ho<;>simp[ho,turns]
 unfold Cg at h;split at h
 ·rename_i m p hp;obtain⟨Jz,h⟩:=aq h;obtain rfl:=bM Jz;split at h
  ·rename_i kt vt Cj;split at h
   ·rename_i key abm;obtain⟨s1,v,h,qY,sF,KC,Jy⟩:=nu (w0:=w0) (I0:=I0) (n:=n) L hX hE (bB ax hz) h;split at h
    ·rename_i l hl;obtain⟨i,hpi,h⟩:=bind_some h;obtain⟨es,ZT,h⟩:=bind_some h;split at h
     ·rename_i h' jV;obtain⟨ka,kb,hu,ta,tb,h1,h2,h3,h4⟩:=(hX.ty _ _ ht).mp _ rfl;rw[Cj]at h1;simp only[AK.map.injEq]at h1;obtain⟨rfl,rfl⟩:=h1;obtain⟨Gy,XA⟩:=hX.map _ _ _ Cj;obtain⟨d,hd,hkk⟩:=TY (hX.ty _ _ h2) Gy;obtain⟨vk,k1,k2,k3,k4⟩:=hkk key;obtain⟨r,r1,r2⟩:=DL (b:=vt) k4 k1 v es 0;have yW:Xc d vk (enc T vt v) (es.map λp=>(enc T kt p.1,enc T vt p.2))=some ((jy (iN kt) es key v).map λp=>(enc T kt p.1,enc T vt p.2)):=by
       unfold Xc;rw[r1];split at r2
       ·obtain ⟨j,rfl,_,e2⟩:=r2;rw[rA]at e2;simp[e2]
       ·obtain ⟨rfl,e2⟩:=r2;simp[e2]
      obtain⟨⟨hm,hk⟩,hg⟩:=zI hl;obtain⟨_,hs⟩:=x6 jV;refine .one _ h (qY.trans (rO _)) λq hS=>?_;obtain⟨q1,av,hv⟩:=Jy q hS;have eS:=gm hv.Fz XA;subst eS;have T1:bh (q1.ev x)=some (.mp (dk m' i)):=hv.keeps x _ (by
       have hr:=hS.fH ax hx;rw[hp]at hr;subst hpi;generalize q.ev x=u at hr;cases hr with
       |val _ _ _ av hq hv=>obtain ⟨_,rfl⟩:=hv;exact hq)
      have T1:q1.ev x=.val (.mp (dk m' i)):=by generalize q1.ev x=u at T1;cases u<;>simp[bh]at T1;rw[T1]
      have hyq:q1.ev y=.val (.fl vk):=by have:=cX (hS.fH ax hy) abm ((hX.ty _ _ h2).ok);rw[k1]at this;exact dp (hv.keeps y _ this)
      have ui:i<l.length:=(aV.1 ZT).1;obtain⟨mc,hmc⟩:=Io hl hv.rel ZT;refine hv.qi.sound (BW ho ax kg hu hd (hX.ro hw _) T1 hmc hyq k2 k3 hv.E7 yW ⟨?_,λhf=>?_⟩)
      ·have hH:=hv.rel.heap.xZ L hk hm hg ui (x:=jy (iN kt) es key v) hs;exact hv.rel.tH (hv:=s1.tick) (cL _) hH
      ·have hfr:=(hv.fr hf).trans (s':=s1) (q'':={q1 with a:=bF q1.a (dk m' i) (some (.map ((jy (iN kt) es key v).map λp=>(enc T kt p.1,enc T vt p.2))))}) ⟨λ_=>.inl rfl,λ_ _=>rfl,rfl,λk' i' fM L8=>?_,rfl,λ_=>.refl _⟩ hv.rel sF qY.m
       ·have:=Fr.pV (X:=X) (o:=o) (u:=.val (.fl undef)) hfr λht=>by rw[uU]at ht;cases ht
        rw[kg]at this;exact this
       ·have dA:dk k' i'≠dk m' i:=λe=>by have:=(iO L fM hk e).1;subst this;rw[hm]at L8;cases L8
        exact⟨ay _ _ dA,rfl⟩
     ·cases h
    ·cases h
   ·cases h
  ·cases h
 ·cases h
end
end Go.X
namespace Go.X
open Go Go.Ev
variable{e:TypeId}{t te:Ty}{k d:Nat}{p:Operand}
section
variable{P:Program}{E:Env}{U:cm}{T:da U.C}{X:Ctx U}{w0:World}{I0:Cells}{n:Nat}{o:Oper}{s:S U.C}{q:St}{α:Type}{out:α}{fz:Bool}{kx:tz U->S U.C->Option α}{K:S U.C->Option α}{esc:List (Nat×Nat)}
variable(L:Lawful U T)
theorem Ck(hT:kL P E T X e t){t':Ty}(h:Q6 U t te k=some t'):fg t'=true/\bj U D t'=P.cellsOf e/\(aL t=false->aL t'=false):=by
 unfold Q6 at h;cases hs:aL t with
 |true=>rw[hs]at h;simp only[ba,ah]at h;subst h;exact⟨hT.ok,hT.cells.symm,λh=>by cases h⟩
 |false=>
  rw[hs]at h;simp only[bc]at h;split at h
  ·rename_i t2 L7;cases hc:(aL t2||!fg t2)with
   |true=>rw[hc]at h;cases h
   |false=>
    rw[hc]at h;simp only[bc,ah]at h;subst h;simp only[GF,mF]at hc;refine⟨hc.2,?_,λ_=>hc.1⟩;rw[hT.cells];have h1:bj U D t=1:=by cases t<;>first|rfl|(simp[aL]at hs)
    have h2:bj U D t2=1:=by cases t2<;>first|rfl|(simp[aL]at hc)
    rw[h1,h2]
  ·cases h
include L in
theorem DN(P:Program)(E:Env){x:den U.C te}{v:den U.C t}{y:den U.C te}(h:setAt t te x k v=some y)(ho:fg t=true)(Jr:fg te=true):
  k+(enc T t v).cells.length<=(enc T te x).cells.length/\((enc T te x).isAgg=true∨(k=0/\(enc T t v).isAgg=false))/\eX (enc T te x) k (enc T t v).cells=enc T te y/\aR (enc T te x).cells k (enc T t v).cells=(enc T te y).cells:=by
 unfold setAt at h;cases hc:(Nat.beq k 0&&decide (t=te))with
 |true=>
  rw[hc]at h;simp only[ba]at h;obtain⟨e,rfl⟩:=bH h;subst e;simp only[aD]at hc;obtain rfl:k=0:=bM hc.1;have hl:(enc T t v).cells.length=(enc T t x).cells.length:=by rw[dP L,dP L]
  have hw:aR (enc T t x).cells 0 (enc T t v).cells=(enc T t v).cells:=by simp[aR,hl]
  refine⟨by omega,?_,?_,hw⟩
  ·cases hs:aL t with
   |true=>left;cases t<;>first|rfl|(simp[aL]at hs)
   |false=>right;exact ⟨rfl,qT hs⟩
  ·cases hs:aL t with
   |true=>have e1:=jQ (T:=T) x hs;rw[<-e1];simp only[eX,hw];exact jQ v hs|false=>
    have h1:=qT (T:=T) (x:=x) hs;rw[jN hs];generalize enc T t x=a at h1;cases a<;>first|rfl|cases h1
 |false=>
  rw[hc]at h;simp only[bc]at h;obtain⟨vD,h⟩:=aq h;simp only[aD,tJ]at vD;split at h
  ·rename_i y' rest hu;simp only[ah]at h;subst h;have hl:(aR (enc T te x).cells k (enc T t v).cells).length=bj U D te:=by rw[bw (by rw[dP L,dP L];exact vD.2),dP L]
   have hw:aR (enc T te x).cells k (enc T t v).cells=(enc T te y').cells:=by
    have hf:=iQ (P:=P) (E:=E) (bx:=[]) (g:=λ_=>0) (tick:=0) L D te x (iz L te) Jr;have Mj:=iQ (P:=P) (E:=E) (bx:=[]) (g:=λ_=>0) (tick:=0) L D t v (iz L t) ho;rw[qV]at hu;have:=hf.aR (k:=k) Mj;obtain⟨_,h2,h3⟩:=iA L D te _ _ _ _ (iz L te) Jr this hu;have e1:cR (aR ((enc T te x).cells.map br.val) k ((enc T t v).cells.map br.val))=some (aR (enc T te x).cells k (enc T t v).cells):=tK (wc _);have e2:(aR ((enc T te x).cells.map br.val) k ((enc T t v).cells.map br.val)).length=bj U D te:=by have:=dK List.length (mW.1 e1);simp only[cM]at this;rw[this,hl]
    rw[<-e2,DD,e1]at h3;simpa using h3
   refine⟨by rw[dP L,dP L];exact vD.2,.inl ?_,?_,hw⟩
   ·cases te<;>first|rfl|(simp[aL]at vD)
   ·rw[<-jQ (T:=T) x vD.1];simp only[eX,hw];exact jQ y' vD.1
  ·cases h
theorem KF{b b':B U.C}(hd:s.box d=some b)(hs:ZS b b'){g:Nat->Nat}:∀d',kX s.b ((d,s.tick,b')::bk s.b d) g g s.tick d':=λd'=>by
 have hl:=c7 hd;by_cases e:d=d'
 ·subst e;right;right;rw[aI,ap rfl];cases b with
  |cells u rs=>
   cases b' with
   |cells u' yR=>left;exact ⟨rfl,_,_,_,_,_,_,hl,rfl⟩|aT _ _ _=>exact hs.elim
  |aT t e xs=>
   cases b' with
   |cells u' yR=>exact hs.elim|aT t' e' om=>obtain⟨rfl,h1⟩:=hs;right;exact ⟨rfl,_,_,_,_,_,_,_,hl,rfl,h1,aP _⟩
 ·left;rw[aI,ai e,aF,ai e];exact ⟨rfl,rfl⟩
theorem rS(hS:aN P E T X s q){u:Ty}{rs yR:List (R U.C)}(hb:s.box d=some (.cells u rs)){qy:List br}(hl:yR.length=rs.length)(hr:dL P E T s.b q.g s.tick yR qy):aN P E T X (s.gR d (.cells u yR)) {q with b:=bF q.b d (some (.cells qy))}:=by obtain⟨h1,h2,_⟩:=hS.cells hb;refine hS.gR hb (b':=.cells u yR) trivial ⟨h1,by rw[h2,hl],qy,rfl,hr.1,λi r c HV hc=>(hr.2 i r c HV hc).mono (λd' _=>KF hb (b':=.cells u yR) trivial d') (cL _)⟩
theorem Fr.T2 {s:S U.C} {q:St} (uU:turns X s o.op=true) (kg:o.dst=none) {b:B U.C} (hb:s.box d=some b) (x:Option Bx) (hx:Ip (q.b d) x):Fr X s o q {q with b:=bF q.b d x}:=by
 have:DG s q {q with b:=bF q.b d x}:=⟨λ_=>.inl rfl,(λd' fF=>ay _ _ λe=>by subst e;rw[c7 hb]at fF;cases fF),rfl,λ_ _ _ _=>⟨rfl,rfl⟩,rfl,Ip.bF hx⟩
 have:=Fr.pV (X:=X) (o:=o) (u:=.val (.fl undef)) this λht=>by rw[uU]at ht;cases ht
 rw[kg]at this;exact this
theorem Fr.T3 {s:S U.C} {q q':St} (uU:turns X s o.op=true) (kg:o.dst=none) (h:DG s q q'):Fr X s o q q':=by
 have:=Fr.pV (X:=X) (o:=o) (u:=.val (.fl undef)) h λht=>by rw[uU]at ht;cases ht
 rw[kg]at this;exact this
include L in
theorem DO(hX:bG P E T X)(hE:(∃k,s.m k=true)->E.fixed=false)(ax:aJ n o=true){x:Operand}(ho:o.op=.store e p x)(kg:o.dst=none)(ht:X.ty e=some t){i off:Nat}(hp:∀q,aN P E T X s q->q.ev p=.val (.ptr (dk k i) off))
  (h:H7.Ce fz s t k i off (s.ev x) K=some out):dQ P E T X w0 I0 n fz o s kx K out:=by
 have hx:x∈o.op.operands:=by simp[ho,Op.operands]
 have hT:=hX.ty _ _ ht;have uU:turns X s o.op=true:=by simp[ho,turns]
 unfold H7.Ce at h;split at h
 ·rename_i te hk;split at h
  ·rename_i t' ot;obtain⟨KG,E0,_⟩:=Ck hT ot;obtain⟨s1,v,h,qY,sF,KC,Jy⟩:=nu (w0:=w0) (I0:=I0) (n:=n) L hX hE (bB ax hx) h;split at h
   ·rename_i l hl;obtain⟨y,hy,h⟩:=bind_some h;split at h
    ·rename_i z hz;split at h
     ·rename_i h' jV;obtain⟨c1,c2,c3,c4⟩:=DN (T:=T) L P E hz KG (hX.obj _ _ hk);obtain⟨⟨hm,Ri⟩,hg⟩:=Gs hl;obtain⟨_,hs⟩:=x5 jV;refine .one _ h (qY.trans (rO _)) λq hS=>?_;obtain⟨q1,av,hv⟩:=Jy q hS;have eS:=gm hv.Fz KG;subst eS;have XC:q1.ev p=.val (.ptr (dk k i) off):=uC (hv.keeps p _ (by rw[hp q hS];rfl));have ui:i<l.length:=(aV.1 hy).1;refine hv.qi.sound (Fq ho ax kg (hX.roK _ _ Ri λa b e=>by rw[hk]at e;cases e) XC (OW hl hv.rel hy) hv.E7 (uA L v) hT.pos (by rw[dP L,E0]) c1 ⟨?_,λhf=>?_⟩)
      ·have hH:=hv.rel.heap.xZ L Ri hm hg ui (x:=z) hs;rw[c4];exact hv.rel.tH (hv:=s1.tick) (cL _) hH
      ·refine Fr.T3 uU kg ((hv.fr hf).trans (s':=s1) ⟨λ_=>.inl rfl,λ_ _=>rfl,rfl,λk' i' fM L8=>?_,rfl,λ_=>.refl _⟩ hv.rel sF qY.m);have dA:dk k' i'≠dk k i:=λe=>by have:=(iO L fM Ri e).1;subst this;rw[hm]at L8;cases L8
       exact⟨ay _ _ dA,rfl⟩
     ·cases h
    ·cases h
   ·cases h
  ·cases h
 ·cases h
include L in
theorem T4(hX:bG P E T X)(hE:(∃k,s.m k=true)->E.fixed=false)(ax:aJ n o=true){x:Operand}(ho:o.op=.store e p x)(h:iJ X kx esc fz o s K=some out):dQ P E T X w0 I0 n fz o s kx K out:=by
 have Rj:p∈o.op.operands:=by simp[ho,Op.operands]
 have hx:x∈o.op.operands:=by simp[ho,Op.operands]
 have uU:turns X s o.op=true:=by simp[ho,turns]
 unfold iJ at h;simp only[ho]at h;split at h
 ·rename_i t ht kg;have hT:=hX.ty _ _ ht;unfold H7 at h;split at h
  ·
   rename_i d k hp;split at h
   ·rename_i u rs hb;have XC:∀q,aN P E T X s q->q.ev p=.loc d (q.g d) 0 0 k:=λq hS=>by have hr:=hS.fH ax Rj;rw[hp]at hr;exact nt hS hr hb
    cases hs:aL t with
    |true=>
     rw[hs]at h;simp only[ba]at h;split at h
     ·rename_i v hv;obtain⟨hle,h⟩:=aq h;rw[tJ]at hle;refine .one _ h (jO _ _) λq hS=>?_;obtain⟨h1,h2,cs,hq,sE⟩:=hS.cells hb;have hqv:=cX (hS.fH ax hx) hv hT.ok;have Jw:(enc T t v).isAgg=true:=by cases t<;>first|rfl|(simp[aL]at hs)
      have hqx:q.ev x=.val (enc T t v):=by
       generalize q.ev x=w at hqv;generalize enc T t v=z at hqv Jw;cases w<;>simp[bh]at hqv
       ·rw[hqv]
       ·subst hqv;cases Jw
      have hlen:=sE.1;have Gy:=iQ (P:=P) (E:=E) (T:=T) (bx:=s.b) (g:=q.g) (tick:=s.tick) L D t v (iz L t) hT.ok;have SI:(oz U D t v).length=bj U D t:=by rw[Gy.1,cM,dP L]
      refine iZ ho ax kg (XC q hS) rfl hq (vs:=(enc T t v).cells.map .val) (by rw[hqx];rfl) (by rw[hqx];trivial) (by rw[hqx];exact uA L v) hT.pos (by rw[cM,dP L,hT.cells]) (by rw[cM,dP L];omega) ⟨?_,λhf=>Fr.T2 uU kg hb _ (.inr (.inl ⟨_,_,hq,rfl⟩))⟩;rw[rB,cS,qV];exact rS hS hb (bw (by rw[SI];exact hle)) (sE.aR Gy)
     ·split at h
      ·rename_i m vs hvx;replace h:=aq h;obtain⟨hc,h⟩:=h;simp only[aD,az,tJ]at hc;obtain⟨_,sP,hle⟩:=hc;have sP:=bM sP;refine .one _ h (jO _ _) λq hS=>?_;obtain⟨h1,h2,cs,hq,sE⟩:=hS.cells hb;have hr:=hS.fH ax hx;rw[hvx]at hr;generalize hu:q.ev x=w at hr;cases hr with
       |agg _ _ aX e1 e2 e3=>
        have hlen:=sE.1;have Qy:∀c∈aX,c.isAgg=false:=λc jn=>by obtain⟨i,hi⟩:=lK.1 jn;exact e3 i c hi
        refine iZ ho ax kg (XC q hS) rfl hq (vs:=aX.map .val) (by rw[hu];rfl) (by rw[hu];trivial) (by rw[hu];exact Qy) hT.pos (by rw[cM,<-e1,sP,hT.cells]) (by rw[cM,<-e1,sP];omega) ⟨?_,λhf=>Fr.T2 uU kg hb _ (.inr (.inl ⟨_,_,hq,rfl⟩))⟩;rw[rB,cS,qV];refine rS hS hb (bw (by rw[sP];exact hle)) (sE.aR ⟨by rw[e1,cM],λi r c hr jn=>?_⟩);simp only[dd,ck]at jn;obtain⟨av,eS,rfl⟩:=jn;exact e2 i r av hr eS
      ·cases h
    |false=>
     rw[hs]at h;simp only[bc]at h;split at h
     ·rename_i t' ot;obtain⟨_,E0,iX⟩:=Ck hT ot;split at h
      ·rename_i r hr;obtain⟨hle,h⟩:=aq h;rw[gE]at hle;have h1c:P.cellsOf e=1:=by rw[hT.cells];cases t<;>first|rfl|(simp[aL]at hs)
       refine .one _ h (jO _ _) λq hS=>?_;obtain⟨h1,h2,cs,hq,sE⟩:=hS.cells hb;obtain⟨q1,q2,q3,q4⟩:=Kz hr (iX hs) q _ hS (hS.fH ax hx);have hlen:=sE.1;refine iZ ho ax kg (XC q hS) rfl hq q1 q3 q2 hT.pos (by rw[h1c];rfl) (by simp only[OZ];omega) ⟨?_,λhf=>Fr.T2 uU kg hb _ (.inr (.inl ⟨_,_,hq,rfl⟩))⟩;rw[rB,cS,qV];exact rS hS hb (bw (by simp only[OZ];omega)) (sE.aR (.cons q4 .nil))
      ·cases h
     ·cases h
   ·cases h
  ·
   rename_i d i k mn te y hp;split at h
   ·rename_i t' ot;obtain⟨KG,E0,_⟩:=Ck hT ot;obtain⟨s1,v,h,qY,sF,KC,Jy⟩:=nu (w0:=w0) (I0:=I0) (n:=n) L hX hE (bB ax hx) h;have FV:s1.ev p=.gl d i k mn te y:=by rw[KC p (by rw[hp];rfl),hp]
    split at h
    ·rename_i Fu e' xs hb;have key:∀(x0 z:den U.C Fu),xs[i]?=some x0->setAt t' Fu x0 k v=some z->K (s1.gR d (.aT Fu e' (xs.set i z)))=some out->(∀q u,aN P E T X s1 q->bn P E T s1.b q.g s1.tick (.gl d i k mn te y) u->u=.loc d (q.g d) (bj U D Fu) i k)->dQ P E T X w0 I0 n fz o s kx K out:=by
      intro x0 z L2 hz h jv;refine .one _ h (qY.trans (jO _ _)) λq hS=>?_;obtain⟨q1,av,hv⟩:=Jy q hS;have eS:=gm hv.Fz KG;subst eS;obtain⟨hU,WC⟩:=hv.rel.aT hb;have je:=hX.ty _ _ hU;obtain⟨c1,c2,c3,c4⟩:=DN (T:=T) L P E hz KG je.ok;have mi:=hv.rel.fH ax Rj;rw[FV]at mi;have XC:=jv q1 _ hv.rel mi;refine hv.qi.sound (si ho ax kg XC rfl WC je.cells.symm hv.E7 (uA L v) hT.pos (by rw[dP L,E0]) (y:=enc T Fu x0) (by simp[L2]) c1 c2 ⟨?_,λhf=>?_⟩)
      ·rw[c3];refine hv.rel.gR hb (b':=.aT Fu e' (xs.set i z)) ⟨rfl,by simp⟩ ⟨hU,?_⟩;rw[List.map_set]
      ·refine Fr.T3 uU kg ((hv.fr hf).trans (s':=s1) ⟨λ_=>.inl rfl,λd' fF=>ay _ _ λe=>?_,rfl,λ_ _ _ _=>⟨rfl,rfl⟩,rfl,Ip.bF (.inr (.inr ⟨_,_,_,WC,rfl,by simp⟩))⟩ hv.rel sF qY.m);subst e;rw[c7 hb]at fF;cases fF
     have jv:∀q u,aN P E T X s1 q->bn P E T s1.b q.g s1.tick (.gl d i k mn te y) u->u=.loc d (q.g d) (bj U D Fu) i k/\(Nat.beq mn (s1.mn d)=true->(⟨Fu,xs[i]?⟩:(u:Ty)×Option (den U.C u))=⟨te,some y⟩):=λq u hS hr=>by
      cases hr with
      |gl _ _ _ _ _ _ _ JJ mi=>obtain⟨h1,h2,h3⟩:=mi _ _ _ _ (c7 hb);exact⟨h1,λSc=>h3 (bM Sc).symm⟩
     cases hvq:Nat.beq mn (s1.mn d)with
     |true=>
      rw[hvq]at h;simp only[ba]at h;split at h
      ·rename_i x' bV;obtain⟨e,rfl⟩:=bH bV;subst e;split at h
       ·rename_i z hz;by_cases hex:∃q,aN P E T X s q
        ·obtain ⟨q,hS⟩:=hex;obtain⟨q1,av,hv⟩:=Jy q hS;have mi:=hv.rel.fH ax Rj;rw[FV]at mi;have:=(jv q1 _ hv.rel mi).2 hvq;simp only[Sigma.mk.injEq,heq_eq_eq,nY]at this;exact key _ z this hz h λq u hS hr=>(jv q u hS hr).1
        ·exact .one _ h (qY.trans (jO _ _)) λq hS=>(hex ⟨q,hS⟩).elim
       ·cases h
      ·cases h
     |false=>
      rw[hvq]at h;simp only[bc]at h;obtain⟨x0,L2,h⟩:=bind_some h;split at h
      ·rename_i z hz;exact key x0 z L2 hz h λq u hS hr=>(jv q u hS hr).1
      ·cases h
    ·cases h
   ·cases h
  ·rename_i k i off hp;refine DO L hX hE ax ho kg ht (λq hS=>?_) h;have hr:=hS.fH ax Rj;rw[hp]at hr;generalize q.ev p=u at hr;cases hr;rfl
  ·rename_i k p' hp;obtain⟨i,hpi,h⟩:=bind_some h;refine DO L hX hE ax ho kg ht (λq hS=>?_) h;have hr:=hS.fH ax Rj;rw[hp]at hr;exact xY hr hpi
  ·
   rename_i k i j off hp;split at h
   ·rename_i te e' hk;split at h
    ·rename_i t' ot;replace ot:=aq ot;obtain⟨hU,ot⟩:=ot;replace hU:=eF hU;obtain⟨KG,E0,_⟩:=Ck hT ot;obtain⟨s1,v,h,qY,sF,KC,Jy⟩:=nu (w0:=w0) (I0:=I0) (n:=n) L hX hE (bB ax hx) h;split at h
     ·rename_i l hl;obtain⟨xs,iY,h⟩:=bind_some h;obtain⟨y,hy,h⟩:=bind_some h;split at h
      ·rename_i z hz;split at h
       ·rename_i h' jV;have je:=hX.ty _ _ hU;obtain⟨c1,c2,c3,c4⟩:=DN (T:=T) L P E hz KG je.ok;obtain⟨⟨hm,Ri⟩,hg⟩:=zH hl;obtain⟨_,hs⟩:=rQ jV;refine .one _ h (qY.trans (rO _)) λq hS=>?_;obtain⟨q1,av,hv⟩:=Jy q hS;have eS:=gm hv.Fz KG;subst eS;have Xn:T.hz k=P.cellsOf e':=by rw[L.hz k te e' hk,je.cells]
        have XC:q1.ev p=.val (.ptr (dk k i) (j*P.cellsOf e'+off)):=by refine uC (hv.keeps p _ ?_);have hr:=hS.fH ax Rj;rw[hp]at hr;generalize q.ev p=u at hr;cases hr;rw[Xn];rfl
        have ui:i<l.length:=by
         unfold fk at iY;cases QW:l[i]? with
         |none=>rw[QW]at iY;cases iY
         |some w=>exact (aV.1 QW).1
        refine hv.qi.sound (zp ho ax kg (hX.roK _ _ Ri λa b e=>by rw[hk]at e;cases e) XC (xW hl hv.rel iY) hv.E7 (uA L v) hT.pos (by rw[dP L,E0]) (y:=enc T te y) (by simp[hy]) c1 c2 ⟨?_,λhf=>?_⟩)
        ·have hH:=hv.rel.heap.xZ L Ri hm hg ui (x:=(some (xs.set j z):Option (List (den U.C te)))) hs;rw[c3,<-List.map_set];exact hv.rel.tH (hv:=s1.tick) (cL _) hH
        ·refine Fr.T3 uU kg ((hv.fr hf).trans (s':=s1) ⟨λ_=>.inl rfl,λ_ _=>rfl,rfl,λk' i' fM L8=>?_,rfl,λ_=>.refl _⟩ hv.rel sF qY.m);have dA:dk k' i'≠dk k i:=λe=>by have:=(iO L fM Ri e).1;subst this;rw[hm]at L8;cases L8
         exact⟨ay _ _ dA,rfl⟩
       ·cases h
      ·cases h
     ·cases h
    ·cases h
   ·cases h
  ·cases h
 ·cases h
end
end Go.X
namespace Go.Ev
open Go
def vl(d gg:Nat)(vs:List AV):br->br
 |.loc d' g' sz i k=>if d'=d/\g'=gg then .val (.ref (vs.drop (i*sz+k)))else .loc d' g' sz i k|r=>r
def St.gv (s:St) (d:Nat) (vs:List AV):St:={s with r:=λt=>vl d (s.g d) vs (s.r t),b:=bF s.b d none}
section
variable{P:Program}{E:Env}{w0:World}{I0:Cells}{n:Nat}{s:St}{a:Act}{w:World}{I I':Cells}{be:Nat->Option Nat}
theorem FB(d:Nat){cs:List br}{vs:List AV}(hb:s.b d=some (.cells cs))(hv:cR cs=some vs)(h:Rel P E w0 I0 n s a w):Rel P E w0 I0 n (s.gv d vs) a w:=by
 obtain⟨I,be,h⟩:=h;have hf:=h.J1 d;refine⟨_,be,hf.since,hf.size,hf.defers,λt ht=>?_,hf.boxes,hf.inj,hf.own,hf.tie,hf.aO⟩;have h1:=hf.cr t ht;have h0:=h.cr t ht;simp only[St.gv];generalize a.tmps.getD t undef=v at h0 h1;cases hr:s.r t with
 |loc d' g' sz i k=>
  by_cases hd:d'=d/\g'=s.g d
  ·obtain ⟨rfl,rfl⟩:=hd;rw[hr]at h0;simp only[vl,and_self,bp];obtain⟨B,hB,rfl⟩:=h0.2 rfl (by simp[hb]);obtain⟨B',cur,t',cZ,hw,dh,hc⟩:=h.boxes d' _ hb;rw[hB]at cZ;injection cZ with cZ;subst cZ;have T5:=sI hv;refine cj.ref _ _ (λj=>cur.getD (i*sz+k+j) undef) (λj c hj=>?_) (λj c hj=>?_) (λj c hj=>?_)
   ·rw[lA]at hj;have eK:i*sz+k+j<cur.size:=by have:=(aV.1 hj).1;rw[T5.1,<-dh]at this;exact this
    rw[dJ,rr hw];simp[eK]
   ·right;exact⟨B,by simp[hb],hB,by rw[dJ]⟩
   ·rw[lA]at hj;have eK:i*sz+k+j<cs.length:=by have:=(aV.1 hj).1;rwa[T5.1]at this
    have hcj:cs[i*sz+k+j]?=some cs[i*sz+k+j]:=by simp[eK]
    exact(c9 (hc _ _ hcj) (T5.2 _ _ _ hcj hj)).mono (.plus _ _ _)
  ·rw[hr]at h1;simp only[vl,hd,bY];exact h1
 |_=>rw[hr]at h1;exact h1
end
end Go.Ev
