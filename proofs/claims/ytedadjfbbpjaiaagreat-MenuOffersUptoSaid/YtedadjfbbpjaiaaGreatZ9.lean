import Derived.Test.YtedadjfbbpjaiaaGreatZ8
set_option linter.all false
namespace Go.X
open Go Go.Ev
section
variable{P:Program}{E:Env}{U:cm}{T:da U.C}{X:Ctx U}{w0:World}{I0:Cells}{n:Nat}{o:Oper}{s:S U.C}{q:St}{α:Type}{out:α}{fz:Bool}{kx:tz U->S U.C->Option α}{K:S U.C->Option α}{esc:List (Nat×Nat)}
variable(L:Lawful U T)
theorem aeu{β:Type}{a:Array β}{x:β}(h:a.toList=[x]):a=#[x]:=by cases a;simp at h;rw[h]
theorem XG{β:Type}{a:Array β}{x y:β}(h:a.toList=[x,y]):a=#[x,y]:=by cases a;simp at h;rw[h]
include L in
theorem Nz(hX:bG P E T X)(hE:(∃k,s.m k=true)->E.fixed=false)(ax:aJ n o=true)(h:iJ X kx esc fz o s K=some out):dQ P E T X w0 I0 n fz o s kx K out:=by
 have h0:=h;cases ho:o.op with
 |move x=>unfold iJ at h;simp only[ho]at h;exact Xr ax ho h|assign x=>exact Rl ax ho h|pick c a b=>exact Xs hX ax ho h
 |alloc e=>
  cases ya:pT esc o.dst with
  |none=>exact TU L hX ax ho ya h|some k=>exact Rg L hX hE ho ya h
 |box e x=>
  cases ya:pT esc o.dst with
  |none=>exact abj L hX ax ho ya h|some k=>exact Xz L hX hE ax ho ya h
 |build e parts=>exact TW L hX hE ax ho h|buildSlice e len parts=>exact FA L hX (λe t ht=>(hX.ty e t ht).few) ax ho h
 |load e x=>exact Xu L hX ax ho h|store e p x=>exact T4 L hX hE ax ho h
 |nilCheck x=>exact Kx ax ho h|binOp bo e x y e'=>exact TQ L hX ax ho h
 |unOp uo e x=>exact Xw hX ax ho h|convert e e' x=>exact No L hX ax ho h
 |makeInterface e x=>exact zK hX (λe t ht=>(hX.ty e t ht).aem) ax ho h|makeFunc f first caps=>
  cases f with
  |func f=>exact KH L ax ho h|_=>unfold iJ at h;simp only[ho]at h;cases h
 |makeMap e r=>
  cases r with
  |none=>exact Np L hX hE ho h|some r=>unfold iJ at h;simp only[ho]at h;cases h
 |makeSlice e m m'=>exact Iu L hX ax ho h|slice e x lo hi mx=>exact ok_slice L hX ax ho (λhm d' t l r hp hl hr ht h=>by subst hm;exact abo hX ax ho hp hl hr ht h) h
 |fieldAddr e x f=>exact Ir hX ax ho h|field e x f=>exact TO L hX ax ho h
 |indexAddr e x y=>exact Is L hX ax ho h|index e x y=>exact TP L hX ax ho h
 |lookup e x i ok=>exact Rh L hX ax ho h|mapUpdate e x y z=>
  unfold iJ at h;simp only[ho]at h;split at h
  ·rename_i m' ht hd;obtain⟨hw,h⟩:=aq h;exact DM L hX hw hE ax (.inl ho) hd ht h
  ·cases h
 |insert e x y z=>
  unfold iJ at h;simp only[ho]at h;split at h
  ·rename_i m' ht hd;obtain⟨hw,h⟩:=aq h;exact DM L hX hw hE ax (.inr ho) hd ht h
  ·cases h
 |extract x k=>exact Nm ax ho h|panic x=>exact TX hX ax ho h
 |call c=>
  obtain⟨callee,args,argTypes⟩:=c;cases callee with
  |value x=>exact IC L hX hE ax ho h|builtin b=>
   unfold iJ at h;simp only[ho]at h;split at h
   ·rename_i x lt ha ht;rw[aeu ha,aeu ht]at ho;exact abi hX ax ho h0
   ·rename_i x y e u ha ht;rw[XG ha,XG ht]at ho;exact Rk L hX ax ho h0
   ·rename_i x y e u ha ht;rw[XG ha,XG ht]at ho;exact XD L hX ax ho h0
   ·cases h
  |_=>unfold iJ at h;simp only[ho]at h;cases h
 |_=>unfold iJ at h;simp only[ho]at h;cases h
theorem Bl{q:St}{K K':St->Prop}(h:Sound P E w0 I0 n o q K)(hk:∀q,K q->∃q',j6 P E w0 I0 n q q'/\K' q'):Sound P E w0 I0 n o q K':=λa w hR Qc=>lO (λa' w' ⟨q',g1,g2⟩=>by obtain⟨q2,h1,h2⟩:=hk q' g2;exact⟨q2,h1 a' w' g1,h2⟩) (h a w hR Qc)
include L in
theorem dQ.gives {l:List Operand} (h:dQ P E T X w0 I0 n true o s kx (λs=>gives true s l K) out):dQ P E T X w0 I0 n true o s kx K out:=by
 cases h with
 |one s1 hK hm h=>obtain⟨s2,hK2,B3,_,hq⟩:=qZ (P:=P) (E:=E) (X:=X) (w0:=w0) (I0:=I0) (n:=n) L _ _ _ hK;refine .one s2 hK2 (hm.trans B3) λq hS=>Bl (h q hS) λq1 g=>?_;obtain⟨q2,a,b,_⟩:=hq q1 g.1;exact⟨q2,a,b,λhf=>by cases hf⟩
 |two hf s1 s2 h1 h2 m1 m2 h=>
  obtain⟨s3,hK3,hm3,_,hq3⟩:=qZ (P:=P) (E:=E) (X:=X) (w0:=w0) (I0:=I0) (n:=n) L _ _ _ h1;obtain⟨s4,hK4,hm4,_,hq4⟩:=qZ (P:=P) (E:=E) (X:=X) (w0:=w0) (I0:=I0) (n:=n) L _ _ _ h2;refine .two hf s3 s4 hK3 hK4 (m1.trans hm3) (m2.trans hm4) λq hS=>Bl (h q hS) λq1 g=>?_;rcases g with g|g
  ·obtain ⟨q2,a,b,_⟩:=hq3 q1 g;exact⟨q2,a,.inl b⟩
  ·obtain ⟨q2,a,b,_⟩:=hq4 q1 g;exact⟨q2,a,.inr b⟩
 |cG p s1 hK hm h=>exact .cG p s1 hK hm h
include L in
theorem O7(hX:bG P E T X)(hE:(∃k,s.m k=true)->E.fixed=false)(ax:aJ n o=true)(h:Kh X kx esc o s K=some out):dQ P E T X w0 I0 n true o s kx K out:=by
 unfold Kh at h;cases hg:TA esc o.dst with
 |true=>rw[hg]at h;replace h:iJ X kx [] true o s (λs=>gives true s (ZR o.dst) K)=some out:=h;exact dQ.gives L (Nz (w0:=w0) (I0:=I0) L hX hE ax h)|false=>rw[hg]at h;replace h:iJ X kx esc true o s K=some out:=h;exact Nz (w0:=w0) (I0:=I0) L hX hE ax h
theorem Ug{β:Type}(f:Nat->β)(k:Nat):bF f k (f k)=f:=by
 funext j;unfold bF;split
 ·rename_i e;rw[e]
 ·rfl
theorem aN.told {t:Nat} (h:aN P E T X s q) {r:R U.C} (hr:bn P E T s.b q.g s.tick r (q.r t)):aN P E T X (s.put (some t) r) q:=by have:=h.put (some t) hr;simp only[St.qw,Ug]at this;exact this
def QE(P:Program)(E:Env)(T:da U.C)(X:Ctx U)(sB:S U.C)(k:S U.C->Option α)(out:α)(q:St):Prop:=∃s',aN P E T X s' q/\bu sB s'/\k s'=some out
def XE(P:Program)(E:Env)(T:da U.C)(X:Ctx U)(sB:S U.C)(kx:tz U->S U.C->Option α)(out:α)(av:AV)(q:St):Prop:=∃p s',aN P E T X s' q/\bu sB s'/\kx p s'=some out/\fg p.t=true/\av=.mI p.tid (enc T p.t p.x)
include L in
theorem uE(hX:bG P E T X){sB:S U.C}(hE:(∃k,sB.m k=true)->E.fixed=false){ops:Array Oper}(ax:gJ n ops=true){Q:bZ->St->Prop}(hQ:∀q,QE P E T X sB K out q->Q .normal q){Z:AV->St->Prop}(hZ:∀av q,XE P E T X sB kx out av q->Z av q):
  ∀(l:List Oper)(i:Nat)(s:S U.C)(q:St)(a:Act)(w:World),(∀j,l[j]?=ops[i+j]?)->bu sB s->oM X kx esc ops l s K=some out->aN P E T X s q->Rel P E w0 I0 n q a w->
  wpOps P ops (lift P E w0 I0 n Q Z) (List.range' i l.length) a w
 |[],i,s,q,a,w,_,hm,h,hS,hR=>⟨q,hR,hQ q ⟨s,hS,hm,h⟩⟩|o::l,i,s,q,a,w,hl,hm,h,hS,hR=>by
  have ho:ops[i]?=some o:=by simpa using(hl 0).symm
  have jq:∀j,l[j]?=ops[(i+1)+j]?:=λj=>by have:=hl (j+1);simpa[iU,jo 1]using this
  have qG:=rq.1 ax o (nB ho);simp only[aD]at qG;simp only[dE,List.range'_succ,wpOps,ho];have run:∀s:S U.C,bu sB s->aN P E T X s q->Kh X kx esc o s (λs=>oM X kx esc ops l s K)=some out->o.wp P a w (wpOps P ops (lift P E w0 I0 n Q Z) (List.range' (i+1) l.length)) (lift P E w0 I0 n Q Z):=λs hm hS h=>by
   cases O7 (w0:=w0) (I0:=I0) L hX (by rw[hm.m];exact hE) qG.1 h with
   |one s1 hK qY h1=>exact lO (λa' w' ⟨q',g1,g2⟩=>uE hX hE ax hQ hZ l (i+1) s1 q' a' w' jq (hm.trans qY) hK g2.1 g1) (h1 q hS a w hR _)|two hf s1 s2 hK1 hK2 qY B3 h1=>
    refine lO (λa' w' ⟨q',g1,g2⟩=>?_) (h1 q hS a w hR _);rcases g2 with g2|g2
    ·exact uE hX hE ax hQ hZ l (i+1) s1 q' a' w' jq (hm.trans qY) hK1 g2 g1
    ·exact uE hX hE ax hQ hZ l (i+1) s2 q' a' w' jq (hm.trans B3) hK2 g2 g1
   |cG p s1 hK qY h1=>obtain⟨hp,h2⟩:=h1 q hS;refine lO (λa' w' ⟨q',g1,g2⟩=>g2.elim) (h2 a w hR _ λx v s' a' w' I' iK hx lr hr=>?_);exact⟨x,v,s',I',iK,rfl,hZ _ _ ⟨p,s1,hx.1,hm.trans qY,hK,hp,hx.2⟩,lr,hr⟩
  have go:∀s:S U.C,bu sB s->aN P E T X s q->oM X kx esc ops l s K=some out->wpOps P ops (lift P E w0 I0 n Q Z) (List.range' (i+1) l.length) a w:=λs hm hS h=>uE hX hE ax hQ hZ l (i+1) s q a w jq hm h hS hR;have skip:∀s:S U.C,bu sB s->aN P E T X s q->oM X kx esc ops l (s.put o.dst qQ) K=some out->wpOps P ops (lift P E w0 I0 n Q Z) (List.range' (i+1) l.length) (a.put o.dst undef) w:=λs hm hS h=>by refine uE hX hE ax hQ hZ l (i+1) _ (q.put o.dst (.fb [])) _ w jq (hm.trans (bd _ _)) h (hS.put o.dst (.fb [] [] rfl λi r q hr=>by simp at hr)) ?_;obtain⟨I,be,lr⟩:=hR;exact⟨I,be,lr.put o.dst (r:=.fb []) ⟨#[],rfl,rfl,λj r hr=>by simp at hr⟩⟩
  unfold oM at h;cases hg:o.guard with
  |none=>simp only[hg]at h;simp only[Region.wanted,hg,bp];exact .inl (run s hm hS h)|some p=>
   obtain⟨j,want⟩:=p;simp only[hg]at h;split at h
   ·cases h
   ·rename_i t hj;have eK:t<n:=by have:=qG.2;simp only[hg,hj]at this;simpa using this
    have hR0:=hR;obtain⟨I,be,lr⟩:=hR0;have KN:=hS.cr t;have hw:∀b,gate q t want=some b->(yielded ops a.tmps j==some want)=b:=λb hb=>rF lr eK hj hb;simp only[Region.wanted,hg];split at h
    ·rename_i b hb;have hq:q.r t=.val (.fl (.bool b)):=by
      rw[hb]at KN;cases KN with
      |val _ _ _ av hq hv=>obtain ⟨_,rfl⟩:=hv;exact dp hq
     rw[hw (b==want) (by simp[gate,hq])];have ID:∀b',b'=b->aN P E T X (s.put (some t) (.val .bool b')) q:=λb' e=>hS.told (by subst e;rw[hq];exact aY (t:=.bool) rfl);cases b<;>cases want<;>simp only[ba,bc]at h<;>simp
     ·exact .inl (run (s.put (some t) _) (hm.trans (bd _ _)) (ID _ rfl) h)
     ·exact skip (s.put (some t) _) (hm.trans (bd _ _)) (ID _ rfl) h
     ·exact skip (s.put (some t) _) (hm.trans (bd _ _)) (ID _ rfl) h
     ·exact .inl (run (s.put (some t) _) (hm.trans (bd _ _)) (ID _ rfl) h)
    ·rename_i b hb;have hq:q.r t=.val (.fl (.bool b)):=by
      rw[hb]at KN;generalize q.r t=u at KN;cases KN with
      |const _ hc=>rfl
     rw[hw (b==want) (by simp[gate,hq])];cases b<;>cases want<;>simp only[Bool.xor_self,Bool.xor_true,Bool.xor_false,tq,fG,ba,bc]at h<;>simp
     ·exact .inl (run _ hm hS h)
     ·exact skip _ hm hS h
     ·exact skip _ hm hS h
     ·exact .inl (run _ hm hS h)
    ·rename_i hb;have hq:∃qs,q.r t=.fb qs:=by
      rw[hb]at KN;generalize q.r t=u at KN;cases KN with
      |fb _ qs _ _=>exact ⟨qs,rfl⟩
     obtain⟨qs,hq⟩:=hq;rw[hw false (by simp[gate,hq])];simp;exact skip _ hm hS h
    ·cases h
end
section
variable{C:Nat->Type}
inductive Item(s:S C):RS->R C->R C->List (Nat×B C)->Prop
 |val (t:Ty) (x:R C) (v:den C t) (h:fV t x=some v):Item s (.val t) x (.val t v) []
 |full (t:Ty) (xs:List (den C t)):Item s (.full t) (.full t xs) (.full t xs) []
 |loc (d k:Nat):Item s (.loc d k) (.loc d k) (.loc d k) []
 |whole (d:Nat):Item s (.whole d) (.whole d) (.whole d) []
 |own (d:Nat) (t:Ty) (e:TypeId) (d':Nat) (xs:List (den C t)) (h:s.box d'=some (.aT t e xs)):Item s (.own d t e) (.whole d') (.whole d) [(d,.aT t e xs)]
 |abr (d:Nat) (t:Ty) (e:TypeId):Item s (.own d t e) (.full t []) (.whole d) [(d,.aT t e [])]
 |abt (d:Nat) (t:Ty) (e:TypeId):Item s (.own d t e) (.emp t) (.whole d) [(d,.aT t e [])]
 |abu (d:Nat) (t:Ty) (e:TypeId) (v:Value) (h:eG v=true):Item s (.own d t e) (.const v) (.whole d) [(d,.aT t e [])]
 |dn (t:Ty) (z:den C t) (k:Nat):Item s (.dn t k) (.dn t z k) (.dn t z k) []
def iq(tick:Nat)(bs:List (Nat×B C)):List (Nat×Nat×B C):=bs.map λe=>(e.1,tick,e.2)
theorem O8{s:S C}{r:RS}{x:R C}{ts:List Ty}{y:HL C ts}{z:HL C (Ki r.ty ts)}(tick:Nat)(h:r.save s x ts y=some z):∃R' bs,Item s r x R' bs/\r.load tick ts z=((R',iq tick bs),y):=by
 cases r with
 |val t=>
  simp only[RS.save]at h;split at h
  ·rename_i v hv;obtain rfl:=dc h;exact⟨_,_,.val t x v hv,by simp[RS.load,iq]⟩
  ·cases h
 |full t=>
  simp only[RS.save]at h;split at h
  ·rename_i t' xs;split at h
   ·rename_i v hv;obtain⟨e,rfl⟩:=bH hv;simp only[Ty.list.injEq]at e;subst e;obtain rfl:=dc h;exact⟨_,_,.full t' xs,by simp[RS.load,iq]⟩
   ·cases h
  ·cases h
 |loc d k=>
  simp only[RS.save]at h;split at h
  ·rename_i d' k';replace h:=aq h;obtain⟨hc,h⟩:=h;simp only[aD]at hc;obtain⟨h1,h2⟩:=hc;obtain rfl:=bM h1;obtain rfl:=bM h2;obtain rfl:=dc h;exact⟨_,_,.loc d k,rfl⟩
  ·cases h
 |whole d=>
  simp only[RS.save]at h;split at h
  ·rename_i d';replace h:=aq h;obtain⟨h1,h⟩:=h;obtain rfl:=bM h1;obtain rfl:=dc h;exact⟨_,_,.whole d,rfl⟩
  ·cases h
 |own d t e=>
  simp only[RS.save]at h;split at h
  ·rename_i d';split at h
   ·rename_i t' e' xs hb;replace h:=aq h;obtain⟨h1,h⟩:=h;obtain rfl:=eF h1;split at h
    ·rename_i v hv;obtain⟨e2,rfl⟩:=bH hv;simp only[Ty.list.injEq]at e2;subst e2;obtain rfl:=dc h;exact⟨_,_,.own d t' e' d' xs hb,by simp[RS.load,iq]⟩
    ·cases h
   ·cases h
  ·rename_i t' xs;replace h:=aq h;obtain⟨h1,h⟩:=h;obtain rfl:=eF h1;split at h
   ·obtain rfl:=dc h;exact⟨_,_,.abr d t' e,by simp[RS.load,iq]⟩
   ·cases h
  ·rename_i v;replace h:=aq h;obtain⟨h1,h⟩:=h;obtain rfl:=dc h;exact⟨_,_,.abu d t e v h1,by simp[RS.load,iq]⟩
  ·rename_i t';replace h:=aq h;obtain⟨h1,h⟩:=h;obtain rfl:=eF h1;obtain rfl:=dc h;exact⟨_,_,.abt d t' e,by simp[RS.load,iq]⟩
  ·cases h
 |dn t k=>
  simp only[RS.save]at h;split at h
  ·rename_i t' z' k';replace h:=aq h;obtain⟨h1,h⟩:=h;obtain rfl:=bM h1;split at h
   ·rename_i v hv;obtain⟨e,rfl⟩:=bH hv;subst e;obtain rfl:=dc h;exact⟨_,_,.dn t' z' k,by simp[RS.load,iq]⟩
   ·cases h
  ·cases h
inductive D1(s:S C):List (Nat×RS)->List (Nat×R C)->List (Nat×B C)->Prop
 |nil:D1 s [] [] []
 |cons {q:Nat} {r:RS} {l:List (Nat×RS)} {R':R C} {rs:List (Nat×R C)} {b1 b2:List (Nat×B C)} (h:Item s r (s.look q) R' b1) (h2:D1 s l rs b2):D1 s ((q,r)::l) ((q,R')::rs) (b1++b2)
inductive rT(s:S C):List RS->List (R C)->List (R C)->List (Nat×B C)->Prop
 |nil:rT s [] [] [] []
 |cons {r:RS} {l:List RS} {x R':R C} {xs rs:List (R C)} {b1 b2:List (Nat×B C)} (h:Item s r x R' b1) (h2:rT s l xs rs b2):rT s (r::l) (x::xs) (R'::rs) (b1++b2)
inductive wo(s:S C):List (Nat×BS)->List (Nat×B C)->Prop
 |nil:wo s [] []
 |cells {d:Nat} {t:Ty} {cs:List RS} {l:List (Nat×BS)} {xs rs:List (R C)} {b1 b2:List (Nat×B C)} (hb:s.box d=some (.cells t xs)) (h:rT s cs xs rs b1) (h2:wo s l b2):wo s ((d,.cells t cs)::l) ((d,.cells t rs)::(b1++b2))
 |aT {d:Nat} {t:Ty} {e:TypeId} {l:List (Nat×BS)} {xs:List (den C t)} {b2:List (Nat×B C)} (hb:s.box d=some (.aT t e xs)) (h2:wo s l b2):wo s ((d,.aT t e)::l) ((d,.aT t e xs)::b2)
theorem ye(tick:Nat)(a b:List (Nat×B C)):iq tick (a++b)=iq tick a++iq tick b:=by simp[iq]
theorem GI{s:S C}(tick:Nat):∀(l:List (Nat×RS))(ts:List Ty)(y:HL C ts)(z:HL C (vW l ts)),xT s l ts y=some z->∃rs bs,D1 s l rs bs/\qR tick l ts z=((rs.map λe=>(e.1,tick,e.2),iq tick bs),y)
 |[],ts,y,z,h=>by have h:some y=some z:=h;obtain rfl:=dc h;exact⟨[],[],.nil,rfl⟩|(q,r)::l,ts,y,z,h=>by
  simp only[xT]at h;split at h
  ·rename_i y' hy;obtain⟨rs,b2,h1,h2⟩:=GI tick l ts y y' hy;obtain⟨R',b1,h3,h4⟩:=O8 tick h;refine⟨_,_,.cons h3 h1,?_⟩;simp only[qR,h4,h2,ye,eD]
  ·cases h
theorem GJ{s:S C}(tick:Nat):∀(l:List RS)(ts:List Ty)(xs:List (R C))(y:HL C ts)(z:HL C (rM l ts)),oU s l ts xs y=some z->∃rs bs,rT s l xs rs bs/\loadCells tick l ts z=((rs,iq tick bs),y)
 |[],ts,[],y,z,h=>by have h:some y=some z:=h;obtain rfl:=dc h;exact⟨[],[],.nil,rfl⟩|[],ts,_::_,y,z,h=>by simp[oU]at h|r::l,ts,[],y,z,h=>by simp[oU]at h
 |r::l,ts,x::xs,y,z,h=>by
  simp only[oU]at h;split at h
  ·rename_i y' hy;obtain⟨rs,b2,h1,h2⟩:=GJ tick l ts xs y y' hy;obtain⟨R',b1,h3,h4⟩:=O8 tick h;refine⟨_,_,.cons h3 h1,?_⟩;simp only[loadCells,h4,h2,ye]
  ·cases h
theorem zS{s:S C}(tick:Nat):∀(l:List (Nat×BS))(z:HL C (lU l)),oV s l=some z->∃bs,wo s l bs/\oW tick l z=iq tick bs
 |[],z,h=>⟨[],.nil,rfl⟩|(d,.cells t cs)::l,z,h=>by
  simp only[oV]at h;split at h
  ·rename_i t' xs x hb hx;replace h:=aq h;obtain⟨h1,h⟩:=h;obtain rfl:=eF h1;obtain⟨b2,h2,h3⟩:=zS tick l x hx;obtain⟨rs,b1,h4,h5⟩:=GJ tick cs _ _ _ _ h;refine⟨_,.cells hb h4 h2,?_⟩;simp only[oW,h5,h3];simp[iq]
  ·cases h
 |(d,.aT t e)::l,z,h=>by
  simp only[oV]at h;split at h
  ·rename_i t' e' xs x hb hx;replace h:=aq h;obtain⟨h1,h⟩:=h;obtain rfl:=eF h1;split at h
   ·rename_i v hv;obtain⟨e2,rfl⟩:=bH hv;simp only[Ty.list.injEq]at e2;subst e2;obtain rfl:=dc h;obtain⟨b2,h2,h3⟩:=zS tick l x hx;refine⟨_,.aT hb h2,?_⟩;simp only[oW,eM,eO,h3];simp[iq]
   ·cases h
  ·cases h
end
end Go.X
namespace Go.Ev
open Go
inductive Told(s s2:St)(φ:Nat->Option Nat):br->br->Prop
 |none (u:br):Told s s2 φ u .none
 |val (a:AV):Told s s2 φ (.val a) (.val a)
 |full (xs:List AV):Told s s2 φ (.full xs) (.full xs)
 |loc (d d' k:Nat) (h:φ d=some d') (hb:s.b d'≠Option.none):Told s s2 φ (.loc d' (s.g d') 0 0 k) (.loc d 1 0 0 k)
 |view (d d' len e:Nat) (xs:List AV) (h:φ d=some d') (hb:s.b d'=some (.aT e xs)) (dZ:s2.b d=some (.aT e xs)):Told s s2 φ (.view d' (s.g d') 0 len) (.view d 1 0 len)
 |nil (d e:Nat) (h:φ d=Option.none) (dZ:s2.b d=some (.aT e [])):Told s s2 φ (.full []) (.view d 1 0 0)
 |emp (d e:Nat) (h:φ d=Option.none) (dZ:s2.b d=some (.aT e [])):Told s s2 φ (.val .emp) (.view d 1 0 0)
inductive IE(s s2:St)(φ:Nat->Option Nat):Bx->Bx->Prop
 |aT (e:Nat) (xs:List AV):IE s s2 φ (.aT e xs) (.aT e xs)
 |cells (cs O9:List br) (hl:cs.length=O9.length) (h:∀(i:Nat)(c c2:br),cs[i]?=some c->O9[i]?=some c2->Told s s2 φ c c2):IE s s2 φ (.cells cs) (.cells O9)
section
variable{P:Program}{E:Env}{w0:World}{I0:Cells}{n:Nat}{s s2:St}{a:Act}{w:World}{I:Cells}{be:Nat->Option Nat}{φ:Nat->Option Nat}
theorem KO(hg:∀d,s2.g d=1){v:Value}{r r2:br}(ht:Told s s2 φ r r2)(h:bD P w I be s.b s.g v r):bD P w I (λd=>(φ d).bind be) s2.b s2.g v r2:=by
 cases ht with
 |none u=>trivial|val a=>exact h
 |full xs=>exact h|loc d d' k hφ hb=>refine⟨by rw[hg];exact aP _,λ_ _=>?_⟩;obtain⟨B,h1,h2⟩:=h.2 rfl hb;exact⟨B,by simp[hφ,h1],h2⟩
 |view d d' len e xs hφ hb dZ=>refine⟨by rw[hg];exact aP _,λ_=>?_⟩;have h1:=h.2 rfl;unfold viewAt at h1⊢;simp only[hb]at h1;simp only[dZ,hφ,aU];exact h1|nil d e hφ dZ=>
  refine⟨by rw[hg];exact aP _,λ_=>?_⟩;obtain⟨_,A,hv⟩:=h;unfold viewAt;simp only[dZ,hφ,IF];exact⟨aP _,A,hv⟩
 |emp d e hφ dZ=>
  refine⟨by rw[hg];exact aP _,λ_=>?_⟩;cases(show cj w I v .emp from h)with
  |emp A=>unfold viewAt;simp only[dZ,hφ,IF];exact⟨aP _,A,rfl⟩
theorem Uh(ha:s2.a=s.a)(hu:s2.u=s.u)(E5:s2.df=s.df)(hg:∀d,s2.g d=1)(hφ:∀d1 d2 d',φ d1=some d'->φ d2=some d'->s2.b d1≠none->s2.b d2≠none->d1=d2)(hr:∀t,Told s s2 φ (s.r t) (s2.r t))
  (hb:∀d x,s2.b d=some x->(φ d=none/\∃e,x=.aT e []/\0<P.cellsOf e)∨∃d' x',φ d=some d'/\s.b d'=some x'/\IE s s2 φ x' x) (h:Rel P E w0 I0 n s a w):Rel P E w0 I0 n s2 a w:=by
 obtain⟨I,be,h⟩:=h;have Pa:∀d B,s2.b d≠none->(φ d).bind be=some B->∃d',φ d=some d'/\s.b d'≠none/\be d'=some B:=λd B hd hB=>by
  cases hx:s2.b d with
  |none=>exact absurd hx hd|some x=>
   rcases hb d x hx with⟨h1,_⟩|⟨d',x',h1,h2,h3⟩
   ·rw[h1]at hB;cases hB
   ·rw[h1]at hB;exact⟨d',h1,by rw[h2];simp,hB⟩
 refine⟨I,λd=>(φ d).bind be,h.since,h.size,by rw[E5];exact h.defers,λt ht=>KO hg (hr t) (h.cr t ht),λd x hx=>?_,λd1 d2 B h1 h2 h3 h4=>?_,λd B hd hB=>?_,(λd bo _ h2 _=>by rw[hg]at h2;cases h2),?_⟩
 ·rcases hb d x hx with⟨h1,e,rfl,he⟩|⟨d',x',h1,h2,h3⟩
  ·refine ⟨he,eC _,λi x hi=>by simp at hi,?_⟩;simp[h1]
  ·have OV:=h.boxes d' x' h2;cases h3 with
   |aT e xs=>obtain⟨q1,q2,q3,q4⟩:=OV;refine⟨q1,q2,q3,?_⟩;simp only[h1,aU];exact q4|cells cs O9 hl hc=>
    obtain⟨B,cur,t,q1,q2,q3,q4⟩:=OV;refine⟨B,cur,t,by simp[h1,q1],q2,by rw[q3,hl],λj c2 vD=>?_⟩;have hj:j<cs.length:=by rw[hl];exact (aV.1 vD).1
    exact KO hg (hc j cs[j] c2 (by simp[hj]) vD) (q4 j cs[j] (by simp[hj]))
 ·obtain ⟨d1',e1,e2,e3⟩:=Pa d1 B h1 h3;obtain⟨d2',f1,f2,f3⟩:=Pa d2 B h2 h4;have:=h.inj d1' d2' B e2 f2 e3 f3;subst this;exact hφ d1 d2 d1' e1 f1 h1 h2
 ·obtain ⟨d',e1,e2,e3⟩:=Pa d B hd hB;exact h.own d' B e2 e3
 ·rw[ha,hu];refine⟨h.aO.obj,h.aO.inj,λi B hi hB=>?_,h.aO.un,h.aO.ro⟩;obtain⟨q1,q2,q3,q4,q5⟩:=h.aO.own i B hi hB;refine⟨q1,q2,q3,q4,?_⟩;rintro⟨d,hd,Fh⟩;obtain⟨d',e1,e2,e3⟩:=Pa d B hd Fh;exact q5 ⟨d',e2,e3⟩
end
end Go.Ev
namespace Go.X
open Go Go.Ev
variable{Y:Ty->TypeId->Prop}{ow:List Nat}{u:br}{C:Nat->Type}{tick d:Nat}{f:FuncId}{c:Code}{M:List (Nat×Option Nat)}{l:List RS}{Z:AV->St->Prop}{t:Ty}{fn:Func}{ps:List Ty}{cG:Option (TypeId×Ty)}{r:RS}{Q:bZ->St->Prop}{av:AV}{ob:Option Nat}{e:TypeId}{g:Nat->Nat}{esc:List (Nat×Nat)}{hint:Hint}{xs rs:List (R C)}
section
variable{C:Nat->Type}
theorem bU{d:Nat}:∀{l:List Nat},iM d l=true↔d∈l
 |[]=>by simp[iM]|e::l=>by
  simp only[iM,lP,c6,bU (l:=l)];constructor
  ·rintro (h|h)
   ·exact .inl (bM h)
   ·exact .inr h
  ·rintro (rfl|h)
   ·exact .inl (rN _)
   ·exact .inr h
theorem rU:∀{l:List Nat},Dt l=true->l.Nodup
 |[],_=>.nil|d::l,h=>by simp only[Dt,aD,hO]at h;refine oc.2 ⟨λhm=>?_,rU h.2⟩;rw[bU.2 hm]at h;cases h.1
def IG:R C->Option Nat
 |.whole d=>some d|_=>none
def RS.mv (x:R C):RS->List (Nat×Option Nat)
 |.own d _ _=>[(d,IG x)]|_=>[]
def Sp(s:S C):List (Nat×RS)->List (Nat×Option Nat)
 |[]=>[]|(q,r)::l=>r.mv (s.look q)++Sp s l
def KP:List RS->List (R C)->List (Nat×Option Nat)
 |r::l,c::rs=>r.mv c++KP l rs|_,_=>[]
def JA(s:S C):List (Nat×BS)->List (Nat×Option Nat)
 |[]=>[]|(d,.cells _ cs)::l=>(d,some d)::((match s.box d with
  |some (.cells _ rs)=>KP cs rs|_=>[])++JA s l)
 |(d,.aT _ _)::l=>(d,some d)::JA s l
theorem Ui(x:R C)(r:RS):(r.mv x).filterMap (·.2)=r.src x:=by cases r<;>cases x<;>rfl
theorem Pb(s:S C):∀l,(Sp s l).filterMap (·.2)=OS s l
 |[]=>rfl|(q,r)::l=>by simp only[Sp,OS,Pc,Ui,Pb s l]
theorem Pd:∀(l:List RS)(rs:List (R C)),(KP l rs).filterMap (·.2)=Gk l rs
 |[],_=>by simp[KP,Gk]|_::_,[]=>by simp[KP,Gk]
 |r::l,c::rs=>by simp only[KP,Gk,Pc,Ui,Pd l rs]
theorem IH(s:S C):∀l,(JA s l).filterMap (·.2)=Gl s l
 |[]=>rfl|(d,.cells t cs)::l=>by
  simp only[JA,Gl,GK,Pc,IH s l];congr 2;cases hb:s.box d with
  |none=>rfl|some b=>cases b with
   |cells t rs=>simp only[Pd]|aT t e xs=>rfl
 |(d,.aT t e)::l=>by simp only[JA,Gl,GK,IH s l]
theorem zT{d1 d2 d':Nat}:∀{M:List (Nat×Option Nat)},(M.filterMap (·.2)).Nodup->(d1,some d')∈M->(d2,some d')∈M->d1=d2
 |[],_,h1,_=>by cases h1
 |(d,o)::M,hn,h1,h2=>by
  have qu:∀x,(x,some d')∈M->d'∈M.filterMap (·.2):=λx hx=>HH.2 ⟨_,hx,rfl⟩;cases o with
  |none=>simp only[c6,aS,reduceCtorEq,and_false,false_or]at h1 h2;exact zT (M:=M) (by simpa[GK]using hn) h1 h2|some d0=>
   simp only[GK,oc]at hn;simp only[c6,aS,ah]at h1 h2;rcases h1 with⟨rfl,rfl⟩|h1
   ·rcases h2 with⟨rfl,_⟩|h2
    ·rfl
    ·exact absurd (qu _ h2) hn.1
   ·rcases h2 with⟨rfl,rfl⟩|h2
    ·exact absurd (qu _ h1) hn.1
    ·exact zT hn.2 h1 h2
inductive NA(s:S C)(Y:Ty->TypeId->Prop)(ow:List Nat)(M:List (Nat×Option Nat))(Z:List (Nat×B C)):Nat->B C->Prop
 |own (d d':Nat) (t:Ty) (e:TypeId) (xs:List (den C t)) (hm:(d,some d')∈M) (h:s.box d'=some (.aT t e xs)) (ho:d∈ow):NA s Y ow M Z d (.aT t e xs)
 |nil (d:Nat) (t:Ty) (e:TypeId) (hm:(d,none)∈M) (ho:d∈ow) (hy:Y t e):NA s Y ow M Z d (.aT t e [])
 |aT (d:Nat) (t:Ty) (e:TypeId) (xs:List (den C t)) (hm:(d,some d)∈M) (h:s.box d=some (.aT t e xs)):NA s Y ow M Z d (.aT t e xs)
 |cells (d:Nat) (t:Ty) (cs:List RS) (xs rs:List (R C)) (bs:List (Nat×B C)) (hm:(d,some d)∈M) (h:s.box d=some (.cells t xs)) (hi:rT s cs xs rs bs) (hf:cs.all (RS.TE ow)=true) (j5:∀x∈KP cs xs,x∈M) (hz:∀e∈bs,e∈Z):NA s Y ow M Z d (.cells t rs)
 |kept (d:Nat) (b:B C) (hm:(d,some d)∈M) (h:s.box d=some b) (hs:b.still ow=true):NA s Y ow M Z d b
theorem NA.mono {s:S C} {ow':List Nat} {M':List (Nat×Option Nat)} {Z Z':List (Nat×B C)} {b:B C} (h:NA s Y ow M Z d b) (h1:∀x∈M,x∈M') (h2:ow=ow') (h3:∀z∈Z,z∈Z'):NA s Y ow' M' Z' d b:=by
 subst h2;cases h with
 |own d' t e xs hm h ho=>exact .own _ d' t e xs (h1 _ hm) h ho|nil t e hm ho hy=>exact .nil _ t e (h1 _ hm) ho hy
 |aT t e xs hm h=>exact .aT _ t e xs (h1 _ hm) h|cells t cs xs rs bs hm h hi hf j5 hz=>exact .cells _ t cs xs rs bs (h1 _ hm) h hi hf (λx hx=>h1 _ (j5 x hx)) λe he=>h3 _ (hz e he)
 |kept _ hm h hs=>exact .kept _ _ (h1 _ hm) h hs
theorem Pe{s:S C}{x R':R C}{bs:List (Nat×B C)}(h:Item s r x R' bs)(ho:∀d∈r.owns,d∈ow)(hy:∀d t e,r=.own d t e->Y t e):(r.mv x).map (·.1)=bs.map (·.1)/\bs.map (·.1)=r.owns/\∀d b,(d,b)∈bs->NA s Y ow (r.mv x) bs d b:=by
 cases h with
 |own d t e d' xs h=>refine⟨rfl,rfl,λd2 b hb=>?_⟩;simp only[mX,aS]at hb;obtain⟨rfl,rfl⟩:=hb;exact .own _ d' t e xs (by simp[RS.mv,IG]) h (ho _ (by simp[RS.owns]))|abr d t e=>refine⟨rfl,rfl,λd2 b hb=>?_⟩;simp only[mX,aS]at hb;obtain⟨rfl,rfl⟩:=hb;exact .nil _ t e (by simp[RS.mv,IG]) (ho _ (by simp[RS.owns])) (hy _ _ _ rfl)
 |abu d t e v h=>refine⟨rfl,rfl,λd2 b hb=>?_⟩;simp only[mX,aS]at hb;obtain⟨rfl,rfl⟩:=hb;exact .nil _ t e (by simp[RS.mv,IG]) (ho _ (by simp[RS.owns])) (hy _ _ _ rfl)|abt d t e=>refine⟨rfl,rfl,λd2 b hb=>?_⟩;simp only[mX,aS]at hb;obtain⟨rfl,rfl⟩:=hb;exact .nil _ t e (by simp[RS.mv,IG]) (ho _ (by simp[RS.owns])) (hy _ _ _ rfl)
 |_=>exact ⟨rfl,rfl,λd b hb=>by simp at hb⟩
theorem Rr{s:S C}{l:List (Nat×RS)}{rs:List (Nat×R C)}{bs:List (Nat×B C)}(h:D1 s l rs bs):(∀d∈vf l,d∈ow)->(∀q d t e,(q,RS.own d t e)∈l->Y t e)->(Sp s l).map (·.1)=bs.map (·.1)/\bs.map (·.1)=vf l/\(∀d b,(d,b)∈bs->NA s Y ow (Sp s l) bs d b)/\∀t R',(t,R')∈rs->∃r b1,(t,r)∈l/\Item s r (s.look t) R' b1/\(∀x∈r.mv (s.look t),x∈Sp s l)/\∀e∈b1,e∈bs:=by
 induction h with
 |nil=>exact λ_ _=>⟨rfl,rfl,(λd b h=>by cases h),λt R' h=>by cases h⟩
 |cons h h2 ih=>
  rename_i q r l R' rs b1 b2;intro ho hy;obtain⟨a1,a2,a3⟩:=Pe (ow:=ow) h (λd hd=>ho d (by simp[vf,hd])) (Y:=Y) λd t e hr=>hy q d t e (by simp[hr]);obtain⟨c1,c2,c3,c4⟩:=ih (λd hd=>ho d (by simp[vf,hd])) λq d t e hr=>hy q d t e (by simp[hr]);refine⟨by simp[Sp,a1,c1],by simp[vf,a2,c2],λd b hb=>?_,λt R2 ht=>?_⟩
  ·rcases dt.1 hb with hb|hb
   ·exact (a3 d b hb).mono (λx hx=>by simp[Sp,hx]) rfl λz hz=>by simp[hz]
   ·exact (c3 d b hb).mono (λx hx=>by simp[Sp,hx]) rfl λz hz=>by simp[hz]
  ·simp only[c6,aS]at ht;rcases ht with⟨rfl,rfl⟩|ht
   ·exact ⟨r,b1,by simp,h,λx hx=>by simp[Sp,hx],λe he=>by simp[he]⟩
   ·obtain ⟨r',b',e1,e2,e3,e4⟩:=c4 t R2 ht;exact⟨r',b',by simp[e1],e2,λx hx=>by simp[Sp,e3 x hx],λe he=>by simp[e4 e he]⟩
theorem Rs{s:S C}{xs rs:List (R C)}{bs:List (Nat×B C)}(h:rT s l xs rs bs):(∀d∈A4 l,d∈ow)->(∀d t e,RS.own d t e∈l->Y t e)->(KP l xs).map (·.1)=bs.map (·.1)/\bs.map (·.1)=A4 l/\(∀d b,(d,b)∈bs->NA s Y ow (KP l xs) bs d b):=by
 induction h with
 |nil=>exact λ_ _=>⟨rfl,rfl,λd b h=>by cases h⟩
 |cons h h2 ih=>
  intro ho hy;obtain⟨a1,a2,a3⟩:=Pe (ow:=ow) h (λd hd=>ho d (by simp[A4,hd])) (Y:=Y) λd t e hr=>hy d t e (by simp[hr]);obtain⟨c1,c2,c3⟩:=ih (λd hd=>ho d (by simp[A4,hd])) λd t e hr=>hy d t e (by simp[hr]);refine⟨by simp[KP,a1,c1],by simp[A4,a2,c2],λd b hb=>?_⟩;rcases dt.1 hb with hb|hb
  ·exact (a3 d b hb).mono (λx hx=>by simp[KP,hx]) rfl λz hz=>by simp[hz]
  ·exact (c3 d b hb).mono (λx hx=>by simp[KP,hx]) rfl λz hz=>by simp[hz]
def Pf(t:Ty)(e:TypeId):List (Nat×BS)->Prop
 |[]=>False|(_,.cells _ cs)::l=>(∃d,RS.own d t e∈cs)∨Pf t e l
 |(_,.aT _ _)::l=>Pf t e l
theorem Rt{s:S C}{l:List (Nat×BS)}{bs:List (Nat×B C)}(h:wo s l bs):(∀d∈Ds l,d∈ow)->(∀t e,Pf t e l->Y t e)->Kj ow l=true->(JA s l).map (·.1)=bs.map (·.1)/\bs.map (·.1)=A5 l/\(∀d b,(d,b)∈bs->NA s Y ow (JA s l) bs d b)/\(∀x∈JA s l,x.1∈bs.map (·.1)):=by
 induction h with
 |nil=>exact λ_ _ _=>⟨rfl,rfl,(λd b h=>by cases h),λx hx=>by cases hx⟩
 |cells hb hi h2 ih=>
  rename_i d t cs l xs rs b1 b2;intro ho hy hf;simp only[Kj,aD]at hf;obtain⟨a1,a2,a3⟩:=Rs (ow:=ow) (Y:=Y) hi (λd hd=>ho d (by simp[Ds,hd])) λd t e hr=>hy t e (.inl ⟨d,hr⟩);obtain⟨c1,c2,c3,c4⟩:=ih (λd hd=>ho d (by simp[Ds,hd])) (λt e hr=>hy t e (.inr hr)) hf.2;have hmv:JA s ((d,.cells t cs)::l)=(d,some d)::(KP cs xs++JA s l):=by simp only[JA,hb]
  rw[hmv];refine⟨by simp[a1,c1],by simp[A5,a2,c2],λd2 b dZ=>?_,λx hx=>?_⟩
  ·simp only[c6,dt,aS]at dZ;rcases dZ with⟨rfl,rfl⟩|dZ|dZ
   ·exact .cells _ t cs xs rs b1 (by simp) hb hi hf.1 (λx hx=>by simp[hx]) λe he=>by simp[he]
   ·exact (a3 d2 b dZ).mono (λx hx=>by simp[hx]) rfl λz hz=>by simp[hz]
   ·exact (c3 d2 b dZ).mono (λx hx=>by simp[hx]) rfl λz hz=>by simp[hz]
  ·have:x.1∈((d,some d)::(KP cs xs++JA s l)).map (·.1):=cK.2 ⟨x,hx,rfl⟩;simpa[a1,c1]using this
 |aT hb h2 ih=>
  rename_i d t e l xs b2;intro ho hy hf;obtain⟨c1,c2,c3,c4⟩:=ih (λd hd=>ho d (by simpa[Ds]using hd)) hy hf;refine⟨by simp[JA,c1],by simp[A5,c2],λd2 b dZ=>?_,λx hx=>?_⟩
  ·simp only[c6,aS]at dZ;rcases dZ with⟨rfl,rfl⟩|dZ
   ·exact .aT _ t e xs (by simp[JA]) hb
   ·exact (c3 d2 b dZ).mono (λx hx=>by simp[JA,hx]) rfl λz hz=>by simp[hz]
  ·have:x.1∈(JA s ((d,.aT t e)::l)).map (·.1):=cK.2 ⟨x,hx,rfl⟩;simpa[JA,c1]using this
theorem wq{β:Type}{p:β->Bool}{s0 s:List (Nat×Nat×β)}:∀{l:List Nat},Du p s0 s l=true->∀t∈l,∃st x y,ao s0 t=some (st,x)/\ao s t=some (st,y)/\p x=true
 |[],_,t,ht=>by cases ht
 |t'::l,h,t,ht=>by
  simp only[Du]at h;split at h
  ·rename_i a x b y h1 h2;simp only[aD]at h;obtain⟨⟨h3,h4⟩,h5⟩:=h;obtain rfl:=bM h3;simp only[c6]at ht;rcases ht with rfl|ht
   ·exact ⟨_,_,_,h1,h2,h4⟩
   ·exact wq h5 t ht
  ·cases h
theorem k8{β:Type}{s0:List (Nat×Nat×β)}:∀{l:List Nat}{t st:Nat}{x:β},(t,st,x)∈qS s0 l->t∈l/\ao s0 t=some (st,x)
 |[],t,st,x,h=>by cases h
 |t'::l,t,st,x,h=>by
  simp only[qS]at h;split at h
  ·rename_i a y hy;simp only[c6,aS]at h;rcases h with⟨rfl,rfl,rfl⟩|h
   ·exact ⟨by simp,hy⟩
   ·obtain ⟨h1,h2⟩:=k8 h;exact⟨by simp[h1],h2⟩
  ·obtain ⟨h1,h2⟩:=k8 h;exact⟨by simp[h1],h2⟩
theorem GL{β:Type}{p:β->Bool}{s0 s:List (Nat×Nat×β)}:∀{l:List Nat},Du p s0 s l=true->(qS s0 l).map (·.1)=l
 |[],_=>rfl|t::l,h=>by
  simp only[Du]at h;split at h
  ·rename_i a x b y h1 h2;simp only[aD]at h;simp only[qS,h1,eD,GL h.2]
  ·cases h
end
def lX:List (Nat×Option Nat)->Nat->Option Nat
 |[],_=>none|(e,o)::l,d=>if e=d then o else lX l d
theorem zU{d d':Nat}:∀{M:List (Nat×Option Nat)},lX M d=some d'->(d,some d')∈M
 |[],h=>by cases h
 |(e,o)::l,h=>by
  simp only[lX]at h;split at h
  ·rename_i e2;subst e2;subst h;simp
  ·exact tF _ (zU h)
theorem lY{d:Nat}{o:Option Nat}:∀{M:List (Nat×Option Nat)},(M.map (·.1)).Nodup->(d,o)∈M->lX M d=o
 |[],_,h=>by cases h
 |(e,o')::l,hn,h=>by
  simp only[eD,oc]at hn;simp only[c6,aS]at h;simp only[lX];rcases h with⟨rfl,rfl⟩|h
  ·simp
  ·have:e≠d:=λe2=>hn.1 (by subst e2;exact cK.2 ⟨_,h,rfl⟩);rw[ai this];exact lY hn.2 h
theorem oO{β:Type}{d st:Nat}{x:β}:∀{l:List (Nat×Nat×β)},(l.map (·.1)).Nodup->(d,st,x)∈l->ao l d=some (st,x)
 |[],_,h=>by cases h
 |(e,jh,y)::l,hn,h=>by
  simp only[eD,oc]at hn;simp only[c6,aS]at h;rw[aI];rcases h with⟨rfl,rfl,rfl⟩|h
  ·simp
  ·have:e≠d:=λe2=>hn.1 (by subst e2;exact cK.2 ⟨_,h,rfl⟩);rw[ai this];exact oO hn.2 h
section
variable{P:Program}{E:Env}{U:cm}{T:da U.C}{X:Ctx U}{w0:World}{I0:Cells}{n:Nat}{s:S U.C}{q:St}{α:Type}{out:α}
variable(L:Lawful U T)
def Ru(T:da U.C)(BL:List (Nat×Nat×B U.C))(d:Nat):Option Bx:=match ao BL d with
 |some (_,.aT t e xs)=>some (.aT e (List.map (enc T t) xs))|some (_,.cells _ _)=>some (.cells [])
 |none=>none
def qA(T:da U.C)(BL:List (Nat×Nat×B U.C))(q:St):St:={r:=λ_=>.none,b:=Ru T BL,g:=λ_=>1,a:=q.a,u:=q.u,df:=q.df}
theorem mY{BL:List (Nat×Nat×B U.C)}{Z:List (Nat×B U.C)}(hn:(M.map (·.1)).Nodup)(fN:∀d st b,ao BL d=some (st,b)->NA s Y ow M Z d b)(hS:aN P E T X s q){x:R U.C}(hx:x.still ow=true)(hr:bn P E T s.b q.g s.tick x u)(tick:Nat):
  ∃u2,Ev.Told q (qA T BL q) (lX M) u u2/\bn P E T BL (λ_=>1) tick x u2:=by
 have eS:∀av,bh u=some av->Ev.Told q (qA T BL q) (lX M) u u:=λav h=>by
  cases u<;>simp[bh]at h
  ·exact .val _
  ·exact .full _
 cases x with
 |none=>exact ⟨.none,.none _,.none _⟩|val t v=>
  cases hr with
  |val _ _ _ av hq hv=>exact ⟨u,eS av hq,.val t v u av hq hv⟩
 |const v=>
  cases hr with
  |const _ hc=>
   refine⟨cf v,?_,.const v hc⟩;unfold cf;split
   ·exact .full _
   ·exact .val _
   ·exact .val _
 |full t xs=>
  cases hr with
  |full _ _ ho=>exact ⟨_,.full _,.full t xs ho⟩
 |loc d k=>
  cases hl:ao BL d with
  |none=>exact ⟨.none,.none _,.loc d k _ λst u' rs h=>by rw[hl]at h;cases h⟩
  |some e=>
   obtain⟨st,b⟩:=e;cases b with
   |aT t e xs=>exact ⟨.none,.none _,.loc d k _ λst u' rs h=>by rw[hl]at h;cases h⟩
   |cells t rs=>
    have hb:∃t' xs,s.box d=some (.cells t' xs)/\(d,some d)∈M:=by
     cases fN d st _ hl with
     |cells _ cs xs _ bs hm h hi hf j5 hz=>exact ⟨_,_,h,hm⟩|kept _ hm h hs=>exact ⟨_,_,h,hm⟩
    obtain⟨t',xs,hb,hm⟩:=hb;have hu:=nt hS hr hb;obtain⟨_,_,cs,hq,_⟩:=hS.cells hb;subst hu;exact⟨.loc d 1 0 0 k,.loc d d k (lY hn hm) (by rw[hq];simp),.loc d k _ λst u' rs h=>rfl⟩
 |whole d=>
  simp only[R.still,hO]at hx;cases hl:ao BL d with
  |none=>exact ⟨.none,.none _,.whole d _ λst t e xs h=>by rw[hl]at h;cases h⟩
  |some e=>
   obtain⟨st,b⟩:=e;cases b with
   |cells t rs=>exact ⟨.none,.none _,.whole d _ λst t e xs h=>by rw[hl]at h;cases h⟩
   |aT t e xs=>
    have hb:s.box d=some (.aT t e xs)/\(d,some d)∈M:=by
     cases fN d st _ hl with
     |own d' _ _ _ hm h ho=>rw[bU.2 ho]at hx;cases hx
     |nil _ _ hm ho hy=>rw[bU.2 ho]at hx;cases hx
     |aT _ _ _ hm h=>exact ⟨h,hm⟩|kept _ hm h hs=>exact ⟨h,hm⟩
    obtain⟨hb,hm⟩:=hb;have hu:=fh hS hr hb;obtain⟨_,hq⟩:=hS.aT hb;subst hu;refine⟨.view d 1 0 xs.length,.view d d _ e (List.map (enc T t) xs) (lY hn hm) hq (by simp[qA,Ru,hl]),.whole d _ λjh t' e' om h=>?_⟩;rw[hl]at h;simp only[ah,aS,B.aT.injEq]at h;obtain⟨_,rfl,_,h⟩:=h;cases h;rfl
 |gl _ _ _ _ _ _=>cases hx
 |dn t v k=>
  cases hr with
  |dn _ _ _ ho=>exact ⟨_,.val _,.dn t v k ho⟩
 |it=>
  cases hr with
  |it=>exact ⟨_,.val _,.it⟩
 |fb _=>cases hx
 |sub _ _ _=>cases hx
 |vc _=>cases hx
 |sC _=>cases hx
 |agg _ _=>cases hx
 |nz _ _=>cases hx
 |emp t=>
  cases hr with
  |emp _ ho=>exact ⟨_,.val _,.emp t ho⟩
 |fn f caps=>
  cases hr with
  |fn _ _ aX h1 h2=>
   refine⟨_,.val _,.fn f caps aX h1 λi r av h3 h4=>?_⟩;have h5:=h2 i r av h3 h4;simp only[R.still,cJ]at hx;have:=hx r (bC h3);cases r with
   |val t v=>
    cases h5 with
    |val _ _ _ TH hq hv=>exact .val t v _ TH hq hv
   |dn t v k=>
    cases h5 with
    |dn _ _ _ ho=>exact .dn t v k ho
   |_=>cases this
 |mI tid t v=>
  cases hr with
  |mI _ _ _ ho=>exact ⟨_,.val _,.mI tid t v ho⟩
 |jZ k i off=>cases hr;exact⟨_,.val _,.jZ k i off⟩
 |jv k i jj off=>cases hr;exact⟨_,.val _,.jv k i jj off⟩
theorem GM{BL:List (Nat×Nat×B U.C)}{Z:List (Nat×B U.C)}(hn:(M.map (·.1)).Nodup)(hBn:(BL.map (·.1)).Nodup)(fN:∀d st b,ao BL d=some (st,b)->NA s Y ow M Z d b)(hS:aN P E T X s q){x R':R U.C}{b1:List (Nat×B U.C)}(hi:Item s r x R' b1)(j5:∀y∈r.mv x,y∈M)(Ax:∀e∈b1,∃st,(e.1,st,e.2)∈BL)(hf:r.TE ow=true)(hr:bn P E T s.b q.g s.tick x u)(tick:Nat):
  ∃u2,Ev.Told q (qA T BL q) (lX M) u u2/\bn P E T BL (λ_=>1) tick R' u2:=by
 have Pg:∀(d:Nat)(t:Ty)(e:TypeId),u=.full []->(d,none)∈M->(∃st,(d,st,B.aT t e [])∈BL)->∃u2,Ev.Told q (qA T BL q) (lX M) u u2/\bn P E T BL (λ_=>1) tick (.whole d) u2:=by rintro d t e rfl hm ⟨st,hb⟩;have hl:=oO hBn hb;refine⟨.view d 1 0 0,.nil d e (lY hn hm) (by simp[qA,Ru,hl]),.whole d _ λjh t' e' om h=>?_⟩;rw[hl]at h;simp only[ah,aS,B.aT.injEq]at h;obtain⟨_,rfl,_,h⟩:=h;cases h;rfl
 cases hi with
 |val t x v hv=>
  obtain⟨av,h1,h2⟩:=po hr hv;refine⟨u,?_,.val t v u av h1 h2⟩;cases u<;>simp[bh]at h1
  ·exact .val _
  ·exact .full _
 |full t xs=>exact mY hn fN hS rfl hr tick|loc d k=>exact mY hn fN hS rfl hr tick
 |whole d=>exact mY hn fN hS (by simpa[R.still,RS.TE]using hf) hr tick|own d t e d' xs hb=>have hm:=j5 (d,some d') (by simp[RS.mv,IG]);obtain⟨st,hB⟩:=Ax (d,.aT t e xs) (by simp);have hl:=oO hBn hB;have hu:=fh hS hr hb;obtain⟨_,hq⟩:=hS.aT hb;subst hu;refine⟨.view d 1 0 xs.length,.view d d' _ e (List.map (enc T t) xs) (lY hn hm) hq (by simp[qA,Ru,hl]),.whole d _ λjh t' e' om h=>?_⟩;rw[hl]at h;simp only[ah,aS,B.aT.injEq]at h;obtain⟨_,rfl,_,h⟩:=h;cases h;rfl
 |abr d t e=>refine Pg d t e ?_ (j5 (d,none) (by simp[RS.mv,IG])) (Ax (d,.aT t e []) (by simp));cases hr;rfl
 |abu d t e v hv=>
  refine Pg d t e ?_ (j5 (d,none) (by simp[RS.mv,IG])) (Ax (d,.aT t e []) (by simp));unfold eG at hv;split at hv
  ·cases hr;rfl
  ·cases hv
 |abt d t e=>
  have hm:=j5 (d,none) (by simp[RS.mv,IG]);obtain⟨st,hb⟩:=Ax (d,.aT t e []) (by simp);cases hr with
  |emp _ _=>have hl:=oO hBn hb;refine⟨.view d 1 0 0,.emp d e (lY hn hm) (by simp[qA,Ru,hl]),.whole d _ λjh t' e' om h=>?_⟩;rw[hl]at h;simp only[ah,aS,B.aT.injEq]at h;obtain⟨_,rfl,_,h⟩:=h;cases h;rfl
 |dn t z k=>exact mY hn fN hS rfl hr tick
theorem Ph{s2 s3:St}{φ:Nat->Option Nat}{u2:br}(h:Ev.Told q s2 φ u u2)(hb:∀d e xs,s2.b d=some (.aT e xs)->s3.b d=some (.aT e xs)):Ev.Told q s3 φ u u2:=by
 cases h with
 |none u=>exact .none u|val a=>exact .val a
 |full xs=>exact .full xs|loc d d' k h1 h2=>exact .loc d d' k h1 h2
 |view d d' len e xs h1 h2 h3=>exact .view d d' len e xs h1 h2 (hb _ _ _ h3)|nil d e h1 h2=>exact .nil d e h1 (hb _ _ _ h2)
 |emp d e h1 h2=>exact .emp d e h1 (hb _ _ _ h2)
theorem NB{s:S C}{bs:List (Nat×B C)}(h:rT s l xs rs bs):rs.length=xs.length:=by
 induction h with
 |nil=>rfl|cons _ _ ih=>simp[ih]
theorem NC{s:S C}{bs:List (Nat×B C)}(h:rT s l xs rs bs):∀(i:Nat)(x R':R C),xs[i]?=some x->rs[i]?=some R'->∃r b1,r∈l/\Item s r x R' b1/\(∀y∈r.mv x,y∈KP l xs)/\∀e∈b1,e∈bs:=by
 induction h with
 |nil=>intro i x R' h;simp at h|cons h h2 ih=>
  rename_i r l x0 R0 xs rs b1 b2;intro i x R' hx hR;cases i with
  |zero=>simp at hx hR;subst hx hR;exact⟨r,b1,by simp,h,λy hy=>by simp[KP,hy],λe he=>by simp[he]⟩|succ i=>obtain⟨r',b',e1,e2,e3,e4⟩:=ih i x R' (by simpa using hx) (by simpa using hR);exact⟨r',b',by simp[e1],e2,λy hy=>by simp[KP,e3 y hy],λe he=>by simp[e4 e he]⟩
end
section
variable{P:Program}{E:Env}{U:cm}{T:da U.C}{X:Ctx U}{w0:World}{I0:Cells}{n:Nat}{α:Type}{out:α}
variable(L:Lawful U T)
theorem oY{st:Nat}{b:B C}{bs:List (Nat×B C)}(h:(d,st,b)∈iq tick bs):st=tick/\(d,b)∈bs:=by unfold iq at h;obtain⟨e,he,h⟩:=cK.1 h;simp only[aS]at h;obtain⟨rfl,rfl,rfl⟩:=h;exact⟨rfl,he⟩
theorem GN{e:Nat×B C}{bs:List (Nat×B C)}(h:e∈bs):(e.1,tick,e.2)∈iq tick bs:=cK.2 ⟨e,h,rfl⟩
theorem Rv(tick:Nat)(bs:List (Nat×B C)):(iq tick bs).map (·.1)=bs.map (·.1):=by simp[iq]
theorem tN{X:Ctx U}{t:Ty}{e:TypeId}:∀{l:List (Nat×BS)},Dw X l=true->Pf t e l->X.ty e=some t
 |[],_,h=>h.elim|(_,.cells _ cs)::l,ht,h=>by
  simp only[Dw,aD,cJ]at ht;rcases h with⟨d,h⟩|h
  ·exact eF (ht.1 _ h)
  ·exact tN ht.2 h
 |(_,.aT _ _)::l,ht,h=>tN (l:=l) ht h
theorem KQ:∀l:List Nat,(l.map λd=>(d,some d)).filterMap (·.2)=l
 |[]=>rfl|d::l=>by simp[KQ l]
theorem Bm{A B D:Type}{R:A->B->D->Prop}:∀(la:List A)(lb:List B),la.length=lb.length->(∀(i:Nat)(a:A)(b:B),la[i]?=some a->lb[i]?=some b->∃d,R a b d)->∃ld:List D,ld.length=la.length/\∀(i:Nat)(a:A)(b:B)(d:D),la[i]?=some a->lb[i]?=some b->ld[i]?=some d->R a b d
 |[],[],_,_=>⟨[],rfl,λi a b d h=>by simp at h⟩|[],_::_,h,_=>by simp at h
 |_::_,[],h,_=>by simp at h|a::la,b::lb,hl,h=>by
  obtain⟨ld,h1,h2⟩:=Bm la lb (by simpa using hl) λi a' b' h1 h2=>h (i+1) a' b' (by simpa using h1) (by simpa using h2);obtain⟨d,hd⟩:=h 0 a b rfl rfl;refine⟨d::ld,by simp[h1],λi a' b' d' h3 h4 h5=>?_⟩;cases i with
  |zero=>simp at h3 h4 h5;subst h3 h4 h5;exact hd|succ i=>exact h2 i a' b' d' (by simpa using h3) (by simpa using h4) (by simpa using h5)
theorem XH{s0 s:S U.C}:∀{b:Bool}{z:HT U.C b},aek b s0 s=some z->bu s0 s->M8 b s0 z=s.h
 |true,z,hz,_=>(dc hz).symm|false,z,hz,hL=>by have hz:(bif Nat.beq s0.hv s.hv&&Nat.blt s0.hv s0.tick then some ()else none)=some z:=hz;obtain⟨h1,_⟩:=aq hz;simp only[aD,gE]at h1;have e1:=bM h1.1;exact(hL.h (by rw[<-e1];exact h1.2)).2.symm
theorem Rw{s0:S U.C}:∀{b:Bool}(z:HT U.C b),Dv b s0<s0.tick->Dv b s0=s0.hv/\M8 b s0 z=s0.h
 |true,z,h=>absurd h (Nat.lt_irrefl _)|false,z,h=>⟨rfl,rfl⟩
include L in
theorem yf(hX:bG P E T X){j:Sh}(hU:j.vg X=true){s0 s:S U.C}{x:HL U.C j.tys×HT U.C j.h}{q0 q:St}(Sq:aN P E T X s0 q0)(hL:bu s0 s)(hS:aN P E T X s q)(h:j.save s0 s=some x):
  ∃q2,j6 P E w0 I0 n q q2/\aN P E T X (j.load s0 x) q2/\bu s0 (j.load s0 x):=by
 unfold Sh.save at h;obtain⟨hk,h⟩:=aq h;simp only[aD]at hk;obtain⟨k1,k2,k3,k4,k5,k6⟩:=hk;simp only[Sh.vg,aD,cJ]at hU;split at h
 ·rename_i xb hxb;split at h
  ·rename_i y z hy hz;obtain rfl:=dc h;obtain⟨bsB,iB,lB⟩:=zS s0.tick _ _ hxb;obtain⟨rs,bsR,iR,lR⟩:=GI s0.tick _ _ _ _ hy;have Ol:j.load s0 (y,z)={r:=rs.map (λe=>(e.1,s0.tick,e.2))++qS s0.r j.dN,b:=iq s0.tick bsR++(iq s0.tick bsB++qS s0.b j.ve),tick:=s0.tick+1,h:=M8 j.h s0 z,hv:=Dv j.h s0,m:=s0.m}:=by unfold Sh.load;have lR':qR s0.tick j.cr (lU j.boxes) y=((rs.map λe=>(e.1,s0.tick,e.2),iq s0.tick bsR),xb):=lR;simp only[lR',lB]
   rw[Ol];generalize hBL:iq s0.tick bsR++(iq s0.tick bsB++qS s0.b j.ve)=BL;obtain⟨a1,a2,a3,a4⟩:=Rr (Y:=λt e=>X.ty e=some t) (ow:=j.owns) iR (λd hd=>by simp[Sh.owns,hd]) λq d t e hm=>eF (hU.1 _ hm);obtain⟨b1,b2,b3,_⟩:=Rt (Y:=λt e=>X.ty e=some t) (ow:=j.owns) iB (λd hd=>by simp[Sh.owns,hd]) (λt e hm=>tN hU.2 hm) k6;generalize hM:Sp s j.cr++(JA s j.boxes++j.ve.map λd=>(d,some d))=M;have ah5:M.map (·.1)=vf j.cr++(A5 j.boxes++j.ve):=by rw[<-hM];simp only[nN,a1,a2,b1,b2,xq];congr 2;exact(xr λa _=>rfl).trans (Kt _)
   have hBf:BL.map (·.1)=vf j.cr++(A5 j.boxes++j.ve):=by rw[<-hBL];simp only[nN,Rv,a2,b2,GL k2]
   have hn:(M.map (·.1)).Nodup:=by rw[ah5];exact rU k4
   have hBn:(BL.map (·.1)).Nodup:=by rw[hBf];exact rU k4
   have gT:(M.filterMap (·.2)).Nodup:=by rw[<-hM];simp only[Pc,Pb,IH];rw[KQ];exact rU k3
   have lC:∀d∈j.ve,∃st b,ao s0.b d=some (st,b)/\ao s.b d=some (st,b)/\b.still j.owns=true:=λd hd=>by obtain⟨st,b,b',h1,h2,h3⟩:=wq k2 d hd;have:=hL.b d st b' h2 (Sq.Fw d st b h1);rw[h1]at this;simp only[ah,aS,nY]at this;subst this;exact⟨st,b,h1,h2,h3⟩
   have W8:∀t∈j.dN,∃st r,ao s0.r t=some (st,r)/\ao s.r t=some (st,r)/\r.still j.owns=true:=λt ht=>by obtain⟨st,r,r',h1,h2,h3⟩:=wq k1 t ht;have:=hL.r t st r' h2 (Sq.Ci t st r h1);rw[h1]at this;simp only[ah,aS,nY]at this;subst this;exact⟨st,r,h1,h2,h3⟩
   have fN:∀d st b,ao BL d=some (st,b)->NA s (λt e=>X.ty e=some t) j.owns M (bsR++bsB) d b:=λd st b hl=>by
    have hm:=fW hl;rw[<-hBL]at hm;rcases dt.1 hm with hm|hm
    ·exact (a3 d b (oY hm).2).mono (λx hx=>by rw[<-hM];simp[hx]) rfl λz hz=>by simp[hz]
    ·rcases dt.1 hm with hm|hm
     ·exact (b3 d b (oY hm).2).mono (λx hx=>by rw[<-hM];simp[hx]) rfl λz hz=>by simp[hz]
     ·obtain ⟨h1,h2⟩:=k8 hm;obtain⟨jh,b',h3,h4,h5⟩:=lC d h1;rw[h2]at h3;simp only[ah,aS]at h3;obtain⟨rfl,rfl⟩:=h3;refine .kept d b (by rw[<-hM];simp[h1]) ?_ h5;unfold S.box;rw[h4]
   have j5:∀e∈bsR++bsB,∃st,(e.1,st,e.2)∈BL:=λe he=>by
    refine⟨s0.tick,?_⟩;rw[<-hBL];rcases dt.1 he with he|he
    ·exact dt.2 (.inl (GN he))
    ·exact dt.2 (.inr (dt.2 (.inl (GN he))))
   have aev:∀t,∃u2,Ev.Told q (qA T BL q) (lX M) (q.r t) u2/\bn P E T BL (λ_=>1) (s0.tick+1) (S.look (C:=U.C) {r:=rs.map (λe=>(e.1,s0.tick,e.2))++qS s0.r j.dN,b:=BL,tick:=s0.tick+1,h:=M8 j.h s0 z,hv:=Dv j.h s0,m:=s0.m} t) u2:=λt=>by
    rw[S.look_eq];simp only;cases hl:ao (rs.map (λe=>(e.1,s0.tick,e.2))++qS s0.r j.dN) t with
    |none=>exact ⟨.none,.none _,.none _⟩|some e=>
     obtain⟨st,R'⟩:=e;simp only;rcases dt.1 (fW hl)with hm|hm
     ·obtain ⟨e,he,h1⟩:=cK.1 hm;simp only[aS]at h1;obtain⟨h1,h2,h3⟩:=h1;have zg:(t,R')∈rs:=by rw[<-h1,<-h3];exact he
      obtain⟨r,bb,c1,c2,c3,c4⟩:=a4 t R' zg;exact GM hn hBn fN hS c2 (λy hy=>by rw[<-hM];simp[c3 y hy]) (λe he=>j5 e (by simp[c4 e he])) (cJ.1 k5 _ c1) (hS.cr t) _
     ·obtain ⟨h1,h2⟩:=k8 hm;obtain⟨jh,r',h3,h4,h5⟩:=W8 t h1;rw[h2]at h3;simp only[ah,aS]at h3;obtain⟨rfl,rfl⟩:=h3;have hr:=hS.cr t;rw[S.look_eq,h4]at hr;exact mY hn fN hS h5 hr _
   have n4:∀d,∃O9:List br,∀st t rs,ao BL d=some (st,.cells t rs)->fg t=true/\bj U D t=rs.length/\lX M d=some d/\∃cs,q.b d=some (.cells cs)/\cs.length=O9.length/\rs.length=O9.length/\∀(i:Nat)(R':R U.C)(c c2:br),rs[i]?=some R'->cs[i]?=some c->O9[i]?=some c2->Ev.Told q (qA T BL q) (lX M) c c2/\bn P E T BL (λ_=>1) (s0.tick+1) R' c2:=λd=>by
    cases hl:ao BL d with
    |none=>exact ⟨[],λst t rs h=>by cases h⟩
    |some e=>
     obtain⟨st,b⟩:=e;cases b with
     |aT t e xs=>exact ⟨[],λst t rs h=>by simp at h⟩|cells t rs2=>
      have key:∀xs:List (R U.C),s.box d=some (.cells t xs)->(d,some d)∈M->rs2.length=xs.length->(∀(i:Nat)(x R':R U.C)(c:br),xs[i]?=some x->rs2[i]?=some R'->bn P E T s.b q.g s.tick x c->∃c2,Ev.Told q (qA T BL q) (lX M) c c2/\bn P E T BL (λ_=>1) (s0.tick+1) R' c2)->∃O9:List br,∀st t rs,ao BL d=some (st,.cells t rs)->fg t=true/\bj U D t=rs.length/\lX M d=some d/\∃cs,q.b d=some (.cells cs)/\cs.length=O9.length/\rs.length=O9.length/\∀(i:Nat)(R':R U.C)(c c2:br),rs[i]?=some R'->cs[i]?=some c->O9[i]?=some c2->Ev.Told q (qA T BL q) (lX M) c c2/\bn P E T BL (λ_=>1) (s0.tick+1) R' c2:=by
       intro xs hb hm hlen oG;obtain⟨g1,g2,cs,g3,g4⟩:=hS.cells hb;obtain⟨O9,f1,f2⟩:=Bm (R:=λ(R':R U.C)(c c2:br)=>Ev.Told q (qA T BL q) (lX M) c c2/\bn P E T BL (λ_=>1) (s0.tick+1) R' c2) rs2 cs (by rw[hlen,g4.1]) λi R' c h1 h2=>by
        have hi:i<xs.length:=by rw[<-hlen];exact (aV.1 h1).1
        exact oG i xs[i] R' c (by simp[hi]) h1 (g4.2 i xs[i] c (by simp[hi]) h2)
       refine⟨O9,λjh t' yR h=>?_⟩;rw[hl]at h;simp only[ah,aS,B.cells.injEq]at h;obtain⟨_,rfl,rfl⟩:=h;exact⟨g1,by rw[g2,hlen],lY hn hm,cs,g3,by rw[f1,hlen,g4.1],f1.symm,λi R' c c2 h1 h2 h3=>f2 i R' c c2 h1 h2 h3⟩
      rw[hl]at key;have he:=fN d st _ hl;cases he with
      |cells _ cs xs _ bs hm hb hi hf hs2 hz=>refine key xs hb hm (NB hi) λi x R' c h1 h2 hr=>?_;obtain⟨r,bb,c1,c2,c3,c4⟩:=NC hi i x R' h1 h2;exact GM hn hBn fN hS c2 (λy hy=>hs2 y (c3 y hy)) (λe he=>j5 e (hz e (c4 e he))) (cJ.1 hf _ c1) hr _|kept _ hm hb mK=>refine key rs2 hb hm rfl λi x R' c h1 h2 hr=>?_;rw[h1]at h2;simp only[ah]at h2;subst h2;simp only[B.still,cJ]at mK;exact mY hn fN hS (mK x (bC h1)) hr _
   obtain⟨Cf,hCf⟩:=Classical.axiomOfChoice n4;obtain⟨Rf,hRf⟩:=Classical.axiomOfChoice aev;let bb:Nat->Option Bx:=λd=>match ao BL d with
    |some (_,.aT t e xs)=>some (.aT e (List.map (enc T t) xs))|some (_,.cells _ _)=>some (.cells (Cf d))
    |none=>none
   let q2:St:={r:=Rf,b:=bb,g:=λ_=>1,a:=q.a,u:=q.u,df:=q.df}
   have hto:∀d e xs,(qA T BL q).b d=some (.aT e xs)->q2.b d=some (.aT e xs):=λd e xs h=>by
    simp only[qA,Ru]at h;show bb d=_;simp only[bb];cases hl:ao BL d with
    |none=>rw[hl]at h;cases h
    |some e=>
     obtain⟨st,b⟩:=e;rw[hl]at h;cases b with
     |aT t e xs=>exact h|cells t rs=>simp at h
   refine⟨q2,λa w hR=>?_,?_,⟨rfl,cL _,λt st r hr hs=>?_,λd st b hb hs=>?_,λhh=>?_⟩⟩;rotate_left;rotate_left
   ·rcases dt.1 (fW hr)with hm|hm
    ·obtain ⟨e,he,h1⟩:=cK.1 hm;simp only[aS]at h1;omega
    ·exact (k8 hm).2
   ·have hm:=fW hb;simp only[<-hBL]at hm;rcases dt.1 hm with hm|hm
    ·have:=(oY hm).1;omega
    ·rcases dt.1 hm with hm|hm
     ·have:=(oY hm).1;omega
     ·exact (k8 hm).2
   ·exact Rw z hh
   ·refine Uh (s:=q) (s2:=q2) (φ:=lX M) rfl rfl rfl (λ_=>rfl) (λd1 d2 d' h1 h2 _ _=>zT gT (zU h1) (zU h2)) (λt=>Ph (hRf t).1 hto) (λd x hx=>?_) hR;have hx:bb d=some x:=hx;simp only[bb]at hx;cases hl:ao BL d with
    |none=>rw[hl]at hx;cases hx
    |some e=>
     obtain⟨st,b⟩:=e;rw[hl]at hx;have he:=fN d st b hl;cases b with
     |aT t e xs=>
      simp only[ah]at hx;subst hx;have src:∀d',(d,some d')∈M->s.box d'=some (.aT t e xs)->∃d' x',lX M d=some d'/\q.b d'=some x'/\IE q q2 (lX M) x' (.aT e (List.map (enc T t) xs)):=λd' hm hb=>⟨d',_,lY hn hm,(hS.aT hb).2,.aT e _⟩
      cases he with
      |own d' _ _ _ hm hb ho=>exact .inr (src d' hm hb)|nil _ _ hm ho hy=>exact .inl ⟨lY hn hm,e,rfl,(hX.ty _ _ hy).pos⟩
      |aT _ _ _ hm hb=>exact .inr (src d hm hb)|kept _ hm hb hs=>exact .inr (src d hm hb)
     |cells t rs=>
      simp only[ah]at hx;subst hx;obtain⟨g1,g2,g3,cs,g4,g5,g6,g7⟩:=hCf d st t rs hl;refine .inr ⟨d,_,g3,g4,.cells cs _ g5 λi c c2 h1 h2=>?_⟩;have hi:i<rs.length:=by rw[g6,<-g5];exact (aV.1 h1).1
      exact Ph (g7 i rs[i] c c2 (by simp[hi]) h1 h2).1 hto
   ·refine ⟨λt=>(hRf t).2,λd=>?_,λt st r hr=>?_,λd st b hb=>?_,?_,hS.df⟩
    ·show pI P E T X BL (λ_=>1) (s0.tick+1) (ao BL d) (bb d);simp only[bb];cases hl:ao BL d with
     |none=>trivial|some e=>
      obtain⟨st,b⟩:=e;have he:=fN d st b hl;cases b with
      |aT t e xs=>
       refine⟨?_,rfl⟩;cases he with
       |own d' _ _ _ hm hb ho=>exact (hS.aT hb).1|nil _ _ hm ho hy=>exact hy
       |aT _ _ _ hm hb=>exact (hS.aT hb).1|kept _ hm hb hs=>exact (hS.aT hb).1
      |cells t rs=>
       obtain⟨g1,g2,g3,cs,g4,g5,g6,g7⟩:=hCf d st t rs hl;refine⟨g1,g2,_,rfl,g6,λi r c h1 h2=>?_⟩;have hi:i<cs.length:=by rw[g5];exact (aV.1 h2).1
       exact(g7 i r cs[i] c h1 (by simp[hi]) h2).2
    ·show st<s0.tick+1;rcases dt.1 (fW hr)with hm|hm
     ·obtain ⟨e,he,h1⟩:=cK.1 hm;simp only[aS]at h1;omega
     ·have:=Sq.Ci _ _ _ (k8 hm).2;omega
    ·show st<s0.tick+1;have hm:=fW hb;rw[<-hBL]at hm;rcases dt.1 hm with hm|hm
     ·have:=(oY hm).1;omega
     ·rcases dt.1 hm with hm|hm
      ·have:=(oY hm).1;omega
      ·have:=Sq.Fw _ _ _ (k8 hm).2;omega
    ·have hh:M8 j.h s0 z=s.h:=XH hz hL;show fa T s0.m (M8 j.h s0 z) q.a q.u;rw[hh];have:=hS.heap;rw[hL.m]at this;exact this
  ·cases h
 ·cases h
end
def codeOk(n:Nat):Code->Bool
 |.region _ ops _=>gJ n ops|.seq a b=>codeOk n a&&codeOk n b
 |.cond c a b=>zn n c&&(codeOk n a&&codeOk n b)|.block _ a=>codeOk n a
 |.loop a=>codeOk n a|.scope a=>codeOk n a
 |_=>true
def ae:Ex->bZ
 |.normal=>.normal|.exit id=>.exit id
 |.ret=>.ret
section
variable{P:Program}{E:Env}{U:cm}{T:da U.C}{X:Ctx U}{w0:World}{I0:Cells}{n:Nat}{α:Type}{out:α}{kx:tz U->S U.C->Option α}{esc:List (Nat×Nat)}
variable(L:Lawful U T)
def D2(P:Program)(E:Env)(T:da U.C)(X:Ctx U)(w0:World)(I0:Cells)(n:Nat)(esc:List (Nat×Nat))(sB:S U.C)(out:α):Prop:=((∃k,sB.m k=true)->E.fixed=false)->∀(id:Nat)(ops:Array Oper)(s:S U.C)(K:S U.C->Option α)(q:St)(Q:bZ->St->Prop)(Z:AV->St->Prop),gJ n ops=true->bu sB s->Ic X esc ops s K=some out->aN P E T X s q->(∀s' q',aN P E T X s' q'->bu s s'->K s'=some out->Q .normal q')->lz P E w0 I0 n (.region id ops true) Q Z q
include L in
theorem Uj(hX:bG P E T X){sB s:S U.C}(hE:(∃k,sB.m k=true)->E.fixed=false)(hL:bu sB s){id:Nat}{ops:Array Oper}(ax:gJ n ops=true){K:S U.C->Option α}(h:oM X kx esc ops ops.toList s K=some out){q:St}(hS:aN P E T X s q)
  (hQ:∀s' q',aN P E T X s' q'->bu s s'->K s'=some out->Q .normal q') (hZ:∀av q',XE P E T X s kx out av q'->Z av q'):lz P E w0 I0 n (.region id ops false) Q Z q:=by
 intro a w hR;refine qd ?_;have:=uE (w0:=w0) (I0:=I0) L hX (sB:=s) (by rw[hL.m];exact hE) ax (Q:=Q) (Z:=Z) (λq' ⟨s',h1,h2,h3⟩=>hQ s' q' h1 h2 h3) hZ ops.toList 0 s q a w (λj=>by simp) (.refl s) h hS hR;simpa[Hz]using this
theorem XE.up {sB s:S U.C} (hL:bu sB s) {q:St} (h:XE P E T X s kx out av q):XE P E T X sB kx out av q:=by obtain⟨p,s',h1,h2,h3⟩:=h;exact⟨p,s',h1,hL.trans h2,h3⟩
include L in
theorem pX(hX:bG P E T X){sB:S U.C}(hE:(∃k,sB.m k=true)->E.fixed=false)(hD:D2 P E T X w0 I0 n esc sB out)(hZ:∀av q',XE P E T X sB kx out av q'->Z av q'):
  ∀(c:Code)(hint:Hint)(s:S U.C)(k:Ex->S U.C->Option α)(q:St)(Q:bZ->St->Prop),codeOk n c=true->bu sB s->exec X kx esc c hint s k=some out->aN P E T X s q->(∀e s' q',aN P E T X s' q'->bu s s'->k e s'=some out->Q (ae e) q')->lz P E w0 I0 n c Q Z q:=by
 intro c;induction c with
 |skip=>intro hint s k q Q hc hL h hS hQ;exact SX (hQ .normal s q hS (.refl s) h)|label l=>intro hint s k q Q hc hL h hS hQ;exact QM (hQ .normal s q hS (.refl s) h)
 |exit id=>intro hint s k q Q hc hL h hS hQ;exact SY (hQ (.exit id) s q hS (.refl s) h)|ret=>intro hint s k q Q hc hL h hS hQ;exact W6 (hQ .ret s q hS (.refl s) h)
 |region id ops draw=>
  intro hint s k q Q hc hL h hS hQ;cases draw with
  |true=>exact hD hE id ops s _ q Q Z hc hL h hS λs' q' h1 h2 h3=>hQ .normal s' q' h1 h2 h3|false=>exact Uj L hX hE hL hc h hS (λs' q' h1 h2 h3=>hQ .normal s' q' h1 h2 h3) λav q' hx=>hZ av q' (hx.up hL)
 |cond c a b iha ihb=>
  intro hint s k q Q hc hL h hS hQ;simp only[codeOk,aD]at hc;have key:∀(qb:Bool)(ha hb:Hint),AY (s.ev c)=some qb->cond qb (exec X kx esc a ha s k) (exec X kx esc b hb s k)=some out->lz P E w0 I0 n (.cond c a b) Q Z q:=λqb ha hb hq h=>by
   have hco:bI c=true:=by have:=hc.1;unfold zn at this;simp only[aD]at this;exact this.1
   refine aaW hc.1 (mU (hS.ev c hco) hq) (λe=>?_) (λe=>?_)
   ·subst e;exact iha ha s k q Q hc.2.1 hL h hS hQ
   ·subst e;exact ihb hb s k q Q hc.2.2 hL h hS hQ
  unfold exec at h;split at h
  ·rename_i qb ha hb hq;exact key qb ha hb hq h
  ·rename_i qb hq pW;exact key qb .leaf .leaf hq h
  ·cases h
 |seq a b iha ihb=>
  intro hint s k q Q hc hL h hS hQ;simp only[codeOk,aD]at hc;have plain:∀ha hb:Hint,exec X kx esc a ha s (λe s'=>match e with
    |.normal=>exec X kx esc b hb s' k|e=>k e s')=some out->lz P E w0 I0 n (.seq a b) Q Z q:=λha hb h=>by
   refine Cb λK hK=>iha ha s _ q _ hc.1 hL h hS λe s' q' h1 h2 h3=>?_;cases e with
   |normal=>exact hK q' (ihb hb s' k q' Q hc.2 (hL.trans h2) h3 h1 λe s2 q2 g1 g2 g3=>hQ e s2 q2 g1 (h2.trans g2) g3)|exit id=>exact hQ (.exit id) s' q' h1 h2 h3
   |ret=>exact hQ .ret s' q' h1 h2 h3
  unfold exec at h;split at h
  ·rename_i j ha hb;cases hU:j.vg X with
   |false=>rw[hU]at h;cases h
   |true=>
    rw[hU]at h;have h:exec X kx esc a ha s (λe s'=>match e with
     |.normal=>match j.save s s' with
      |some x=>exec X kx esc b hb (j.load s x) k|none=>none
     |e=>k e s')=some out:=h
    refine Cb λK hK=>iha ha s _ q _ hc.1 hL h hS λe s' q' h1 h2 h3=>?_;cases e with
    |normal=>
     simp only at h3;split at h3
     ·rename_i x hx;obtain⟨q2,g1,g2,g3⟩:=yf (w0:=w0) (I0:=I0) (n:=n) L hX hU hS h2 h1 hx;exact hK q' (g1.lz (ihb hb _ k q2 Q hc.2 (hL.trans g3) h3 g2 λe s2 q2 f1 f2 f3=>hQ e s2 q2 f1 (g3.trans f2) f3))
     ·cases h3
    |exit id=>exact hQ (.exit id) s' q' h1 h2 h3|ret=>exact hQ .ret s' q' h1 h2 h3
  ·rename_i ha hb;exact plain ha hb h
  ·exact plain .leaf .leaf h
 |block id a ih=>
  intro hint s k q Q hc hL h hS hQ;unfold exec at h;refine QN (ih _ s _ q _ hc hL h hS λe s' q' h1 h2 h3=>?_);cases e with
  |normal=>exact hQ .normal s' q' h1 h2 h3|exit Jv=>
   simp only at h3;simp only[ae,bZ.xt];by_cases nP:Jv=id
   ·subst nP;rw[rN]at h3;rw[ap rfl];exact hQ .normal s' q' h1 h2 h3
   ·rw[tD nP]at h3;rw[ai nP];exact hQ (.exit Jv) s' q' h1 h2 h3
  |ret=>exact hQ .ret s' q' h1 h2 h3
 |loop a ih=>
  intro hint s k q Q hc hL h hS hQ;unfold exec at h;split at h
  ·rename_i j ha;cases hU:j.vg X with
   |false=>rw[hU]at h;cases h
   |true=>
    rw[hU]at h;simp only[fG,bc]at h;split at h
    ·rename_i x0 L2;obtain⟨q2,g1,g2,g3⟩:=yf (w0:=w0) (I0:=I0) (n:=n) L hX hU hS (.refl s) hS L2;refine CT (λm q'=>∃x,aE (λrec x=>exec X kx esc a ha (j.load s x) λe s'=>match e with
      |.normal=>match j.save s s' with
       |some x=>rec x|none=>none
      |e=>k e s') m x=some out/\∃q2,j6 P E w0 I0 n q' q2/\aN P E T X (j.load s x) q2/\bu s (j.load s x)) X.N ⟨x0,h,q2,g1,g2,g3⟩ λm q' ⟨x,hx,q3,f1,f2,f3⟩=>?_
     cases m with
     |zero=>cases hx
     |succ m=>
      simp only[aE]at hx;refine f1.lz (ih ha _ _ q3 _ hc (hL.trans f3) hx f2 λe s' q4 e1 e2 e3=>?_);cases e with
      |normal=>
       simp only at e3;split at e3
       ·rename_i x' bV;exact⟨m,D3 m,x',e3,yf (w0:=w0) (I0:=I0) (n:=n) L hX hU hS (f3.trans e2) e1 bV⟩
       ·cases e3
      |exit id=>exact hQ (.exit id) s' q4 e1 (f3.trans e2) e3|ret=>exact hQ .ret s' q4 e1 (f3.trans e2) e3
    ·cases h
  ·rename_i ha;refine CT (λm q'=>∃s',aE (λrec s=>exec X kx esc a ha s λe s'=>match e with
    |.normal=>rec s'|e=>k e s') m s'=some out/\aN P E T X s' q'/\bu s s') 64 ⟨s,h,hS,.refl s⟩ λm q' ⟨s',hx,f2,f3⟩=>?_
   cases m with
   |zero=>cases hx
   |succ m=>
    simp only[aE]at hx;refine ih ha _ _ q' _ hc (hL.trans f3) hx f2 λe s2 q4 e1 e2 e3=>?_;cases e with
    |normal=>exact ⟨m,D3 m,s2,e3,e1,f3.trans e2⟩|exit id=>exact hQ (.exit id) s2 q4 e1 (f3.trans e2) e3
    |ret=>exact hQ .ret s2 q4 e1 (f3.trans e2) e3
  ·cases h
 |scope a ih=>
  intro hint s k q Q hc hL h hS hQ;unfold exec at h;refine QO (ih _ s _ q _ hc hL h hS λe s' q' h1 h2 h3=>?_);cases e with
  |normal=>exact hQ .normal s' q' h1 h2 h3|exit id=>exact hQ (.exit id) s' q' h1 h2 h3
  |ret=>exact hQ .ret s' q' h1 h2 h3
 |_=>intro hint s k q Q hc hL h hS hQ;unfold exec at h;cases h
end
section
variable{P:Program}{E:Env}{U:cm}{T:da U.C}{X:Ctx U}{w0:World}{I0:Cells}{n:Nat}{α:Type}{out:α}{s:S U.C}{q:St}
variable(L:Lawful U T)
theorem yg{x:AV}(h:bh u=some x):u5 P q ob u (.v x):=by
 cases u<;>simp[bh]at h
 ·subst h;rfl
 ·subst h;rfl
def lZ(n:Nat):List ResultVar->Bool
 |[]=>true|.tmp t::l=>decide (t<n)&&lZ n l
 |.cell c _::l=>decide (c<n)&&lZ n l
include L in
theorem KR(hX:bG P E T X)(hT:kL P E T X e t){a k:Nat}{u:Ty}{cs:List (R U.C)}{v:den U.C t}(ha:s.look a=.loc d k)(hb:s.box d=some (.cells u cs))(hv:(Kb U t k cs).bind (fV t)=some v)(hS:aN P E T X s q):
  xv P q e (q.r a) (λx=>u5 P q ob x (.v (enc T t v))):=by
 have hr:=hS.cr a;rw[ha]at hr;have hu:=nt hS hr hb;obtain⟨_,_,rs,hq,sE⟩:=hS.cells hb;obtain⟨r,Pj,hv⟩:=bind_some hv;rw[hu];unfold xv;simp only[hq,rB,cS,nY];unfold iL;unfold Kb at Pj;have hl:=(sE.drop k).1;cases hs:aL t with
 |true=>
  rw[hs]at Pj;simp only[ba]at Pj;split at Pj
  ·rename_i x rest hx;simp only[ah]at Pj;subst Pj;have hvx:v=x:=by simp only[fV,Na,ah]at hv;exact hv.symm
   subst hvx;rw[lV]at hx;obtain⟨_,h2,h3⟩:=iA L D t _ _ _ _ (iz L t) hT.ok (sE.drop k) hx;refine⟨hT.pos,by rw[hT.cells];omega,?_⟩;rw[hT.agg,hs];simp only;refine⟨_,by rw[hT.cells];exact h3,?_⟩;rw[jQ v hs];exact yg rfl
  ·cases Pj
 |false=>
  rw[hs]at Pj;simp only[bc,lV]at Pj;have h1:bj U D t=1:=by cases t<;>first|rfl|(simp[aL]at hs)
  cases rP:cs.drop k with
  |nil=>rw[rP]at Pj;cases Pj
  |cons r' l=>rw[rP]at Pj;simp only[List.head?_cons,ah]at Pj;subst Pj;have h2:=sE.drop k;rw[rP]at h2;obtain⟨c,ps,h3,h4,h5⟩:=h2.Im;rw[h3];refine⟨hT.pos,by rw[hT.cells,h1];simp,?_⟩;rw[hT.agg,hs];simp only[List.headD_cons];exact yg (cX h4 hv hT.ok)
include L in
theorem pY(hX:bG P E T X):∀(l:List ResultVar)(rs:List RK){K:S U.C->HL U.C (rs.map RK.ty)->Option α},cO X false l rs s K=some out->lZ n l=true->∃y,K s y=some out/\∀q,aN P E T X s q->(∀ob,gh P n q ob l (cB T rs y))/\(cB T rs y).filter eU=[]
 |[],[],K,h,hn=>⟨(),h,λq hS=>⟨λob=>trivial,rfl⟩⟩|[],_::_,K,h,hn=>by simp[cO]at h
 |.tmp t::l,[],K,h,hn=>by simp[cO]at h|.cell c t::l,[],K,h,hn=>by simp[cO]at h
 |.tmp t::l,.v ty::rs,K,h,hn=>by
  simp only[lZ,aD,az]at hn;simp only[cO]at h;obtain⟨ax,h⟩:=aq h;simp only[bc]at h;split at h
  ·rename_i v hv;obtain⟨y,h,hy⟩:=pY hX l rs h hn.2;refine⟨_,h,λq hS=>?_⟩;obtain⟨g1,g2⟩:=hy q hS;simp only[cB,eM,eO];exact⟨λob=>⟨hn.1,yg (cX (hS.cr t) hv ax),g1 ob⟩,by simpa[eU]using g2⟩
  ·cases h
 |.tmp t::l,.own ty e::rs,K,h,hn=>by simp only[cO]at h;obtain⟨ax,h⟩:=aq h;cases ax
 |.cell c te::l,.own ty e::rs,K,h,hn=>by simp[cO]at h|.cell c te::l,.v ty::rs,K,h,hn=>by
  simp only[lZ,aD,az]at hn;simp only[cO]at h;obtain⟨hU,h⟩:=aq h;have hU:=eF hU;split at h
  ·rename_i d k ha;split at h
   ·rename_i u cs hb;split at h
    ·rename_i v hv;obtain⟨y,h,hy⟩:=pY hX l rs h hn.2;refine⟨_,h,λq hS=>?_⟩;obtain⟨g1,g2⟩:=hy q hS;simp only[cB,eM,eO];exact⟨λob=>⟨hn.1,KR L hX (hX.ty _ _ hU) ha hb hv hS,g1 ob⟩,by simpa[eU]using g2⟩
    ·cases h
   ·cases h
  ·cases h
include L in
theorem wu(hX:bG P E T X):∀(l:List ResultVar)(rs:List RK)(s:S U.C){K:S U.C->HL U.C (rs.map RK.ty)->Option α},((∃k,s.m k=true)->E.fixed=false)->cO X true l rs s K=some out->lZ n l=true->∃s' y,K s' y=some out/\bu s s'/\∀q,aN P E T X s q->∃q' ob,j6 P E w0 I0 n q q'/\aN P E T X s' q'/\mE q q'/\gh P n q' ob l (cB T rs y)/\((cB T rs y).filter eU).length<=1
 |[],[],s,K,hE,h,hn=>⟨s,(),h,.refl s,λq hS=>⟨q,none,.refl q,hS,.refl q,trivial,by simp[cB]⟩⟩|[],_::_,s,K,hE,h,hn=>by simp[cO]at h
 |.tmp t::l,[],s,K,hE,h,hn=>by simp[cO]at h|.cell c t::l,[],s,K,hE,h,hn=>by simp[cO]at h
 |.cell c te::l,.own ty e::rs,s,K,hE,h,hn=>by simp[cO]at h|.tmp t::l,.v ty::rs,s,K,hE,h,hn=>by
  simp only[lZ,aD,az]at hn;simp only[cO]at h;obtain⟨ax,h⟩:=aq h;simp only[ba]at h;have hgv:∃s0,(s0.val true (s0.look t) ty λs v=>cO X true l rs s λs vs=>K s (il ty (rs.map RK.ty) v vs))=some out/\bu s s0/\∀q,aN P E T X s q->∃q0,j6 P E w0 I0 n q q0/\aN P E T X s0 q0/\mE q q0:=by
   unfold OT at h;split at h
   ·exact O2 L h
   ·exact ⟨s,h,.refl s,λq hS=>⟨q,.refl q,hS,.refl q⟩⟩
  obtain⟨s0,h,hm0,hq0⟩:=hgv;obtain⟨s1,v,h,qY,sF,KC,Jy⟩:=nu (w0:=w0) (I0:=I0) (n:=n) (x:=.tmp t) L hX (by rw[hm0.m];exact hE) rfl h;obtain⟨s2,y,h,B3,Ww⟩:=wu hX l rs s1 (by rw[qY.m,hm0.m];exact hE) h hn.2;refine⟨s2,_,h,(hm0.trans qY).trans B3,λq hS=>?_⟩;obtain⟨q0,gw,gS,gk⟩:=hq0 q hS;obtain⟨q1,av,hv⟩:=Jy q0 gS;have eS:=gm hv.Fz ax;subst eS;obtain⟨q2,ob,g1,g2,g3,g4,g5⟩:=Ww q1 hv.rel;refine⟨q2,ob,(gw.trans hv.qi).trans g1,g2,(gk.trans hv.keeps).trans g3,?_,?_⟩
  ·simp only[cB,eM,eO];exact⟨hn.1,yg (g3 _ _ hv.E7),g4⟩
  ·simp only[cB,eM,eO];simpa[eU]using g5
 |.tmp t::l,.own ty e::rs,s,K,hE,h,hn=>by
  simp only[lZ,aD,az]at hn;simp only[cO]at h;obtain⟨ax,h⟩:=aq h;simp only[nO]at ax;have hU:=eF ax;split at h
  ·rename_i xs iY;obtain⟨y,h,hy⟩:=pY (n:=n) L hX l rs h hn.2;refine⟨s,_,h,.refl s,λq hS=>?_⟩;obtain⟨g1,g2⟩:=hy q hS;have hr:=hS.cr t;have oG:∃ob,u5 P q ob (q.r t) (.own e (xs.map (enc T ty))):=by
    split at iY
    ·rename_i d hd;rw[hd]at hr;split at iY
     ·rename_i t' e' om hb;replace iY:=aq iY;obtain⟨he,iY⟩:=iY;obtain rfl:=eF he;obtain⟨e2,rfl⟩:=bH iY;simp only[Ty.list.injEq]at e2;subst e2;refine⟨some d,?_⟩;rw[fh hS hr hb];obtain⟨_,hq⟩:=hS.aT hb;exact⟨rfl,rfl,rfl,_,hq,by rw[cV (by simp)]⟩
     ·cases iY
    ·rename_i v hd;rw[hd]at hr;obtain⟨hn,iY⟩:=aq iY;simp only[ah]at iY;subst iY;unfold eG at hn;split at hn
     ·refine ⟨none,?_⟩;generalize q.r t=u at hr;cases hr;exact⟨rfl,rfl,(hX.ty _ _ hU).pos⟩
     ·cases hn
    ·rename_i t' om hd;rw[hd]at hr;replace iY:=aq iY;obtain⟨he,iY⟩:=iY;split at iY
     ·simp only[ah]at iY;subst iY;refine⟨none,?_⟩;generalize q.r t=u at hr;cases hr;exact⟨rfl,rfl,(hX.ty _ _ hU).pos⟩
     ·cases iY
    ·cases iY
   obtain⟨ob,oG⟩:=oG;refine⟨q,ob,.refl q,hS,.refl q,?_,?_⟩
   ·simp only[cB,eM,eO];exact⟨hn.1,oG,g1 ob⟩
   ·have e1:cB T (.own ty e::rs) (il (.list ty) (rs.map RK.ty) xs y)=.own e (List.map (enc T ty) xs)::cB T rs y:=by simp only[cB,eM,eO]
    rw[show cB T (.own ty e::rs) _=_ from e1,CV];simp only[eU,bp,g2];exact aP _
  ·cases h
 |.cell c te::l,.v ty::rs,s,K,hE,h,hn=>by
  simp only[lZ,aD,az]at hn;simp only[cO]at h;obtain⟨hU,h⟩:=aq h;have hU:=eF hU;split at h
  ·rename_i d k ha;split at h
   ·rename_i u cs hb;split at h
    ·rename_i v hv;obtain⟨y,h,hy⟩:=pY (n:=n) L hX l rs h hn.2;refine⟨s,_,h,.refl s,λq hS=>?_⟩;obtain⟨g1,g2⟩:=hy q hS;refine⟨q,none,.refl q,hS,.refl q,?_,?_⟩
     ·simp only[cB,eM,eO];exact⟨hn.1,KR L hX (hX.ty _ _ hU) ha hb hv hS,g1 none⟩
     ·simp only[cB,eM,eO];show(List.filter eU (RV.v _::cB T rs y)).length<=1;rw[CV];simp[eU,g2]
    ·cases h
   ·cases h
  ·cases h
end
section
variable{P:Program}{E E':Env}{U:cm}{T:da U.C}{X:Ctx U}
structure tO(P:Program)(E E':Env):Prop where
 d:oI P E=oI P E'
 h:nE P E=nE P E'
 it:E.it=E'.it
theorem pZ:tO P E E.plain:=⟨rfl,rfl,rfl⟩
theorem p7(a:Nat->Option Ob)(I0:Cells):tO P E (E.cx a I0):=⟨rfl,rfl,rfl⟩
theorem tO.symm (h:tO P E E'):tO P E' E:=⟨h.d.symm,h.h.symm,h.it.symm⟩
theorem KS(h:tO P E E'){v:den U.C t}(hv:mT P E T t v av):mT P E' T t v av:=by
 cases t with
 |fn a b=>obtain ⟨f,caps,h1,h2⟩:=hv;exact ⟨f,caps,h1,by rw[<-h.d];exact h2⟩|rJ a b=>obtain ⟨f,caps,h1,h2⟩:=hv;exact ⟨f,caps,h1,by rw[<-h.h];exact h2⟩
 |mz a b=>obtain ⟨f,caps,h1,h2⟩:=hv;exact ⟨f,caps,h1,by rw[<-h.h];exact h2⟩|_=>exact hv
theorem D4(h:tO P E E'){bx:List (Nat×Nat×B U.C)}{r:R U.C}(hr:bn P E T bx g tick r u):bn P E' T bx g tick r u:=by
 induction hr with
 |none q=>exact .none q|val t x q av hq hv=>exact .val t x q av hq (KS h hv)
 |const v hc=>exact .const v hc|full t xs ho=>exact .full t xs ho
 |loc d k q hh=>exact .loc d k q hh|whole d q hh=>exact .whole d q hh
 |gl d i k mn t x q hv hh=>exact .gl d i k mn t x q hv hh|dn t x k ho=>exact .dn t x k ho
 |fb rs qs hl h2 ih=>exact .fb rs qs hl ih|fn f caps aX hl h2 ih=>exact .fn f caps aX hl ih
 |mI tid t x ho=>exact .mI tid t x ho|jZ k i off=>exact .jZ k i off
 |jv k i j off=>exact .jv k i j off|sub d off m q hh=>exact .sub d off m q hh
 |vc rs aX h1 h2 h3 ih=>exact .vc rs aX h1 ih h3|sC r av h ih=>exact .sC r av ih
 |emp t ho=>exact .emp t ho|agg n rs aX h1 h2 h3 ih=>exact .agg n rs aX h1 ih h3
 |nz f rs aX h1 h2 ih=>exact .nz f rs aX h1 ih|it=>rw[h.it];exact .it
theorem k9(h:tO P E E'):∀{ps:List Ty}{x:HL U.C ps}{aX:List AV},fA P E T ps x aX->fA P E' T ps x aX
 |[],x,aX,ha=>ha|t::ts,x,aX,⟨a,r,h1,h2,h3⟩=>⟨a,r,h1,KS h h2,k9 h h3⟩
theorem Uk(h:tO P E E')(ht:kL P E T X e t):kL P E' T X e t:=by
 obtain⟨h1,h2,h3,h4,h5,h6,h7,h8,h9,tf,Hw,JB,Rx,Sr,Ul,Um,h17,h18,h19,h20,h21⟩:=ht;refine⟨h1,h2,h3,h4,h5,h6,h7,h8,h9,tf,Hw,JB,Rx,Sr,Ul,Um,h17,h18,?_,h20,h21⟩;obtain⟨i,zv,g1,g2,g3,g4,g5,g6⟩:=h19;refine⟨i,zv,g1,g2,g3,g4,g5,λrs hr=>?_⟩;obtain⟨k1,k2⟩:=g6 rs hr;refine⟨k1,λi r v a b=>?_⟩;rcases k2 i r v a b with k3|⟨k3,k4⟩
 ·exact .inl λbx g tick=>D4 h (k3 bx g tick)
 ·exact .inr ⟨k3,λbx g tick=>D4 h (k4 bx g tick)⟩
theorem Ry(h:tO P E E'){c:ca U}(hc:kZ P E T X f c):kZ P E' T X f c:=by
 obtain⟨h1,h2,h3⟩:=hc;refine⟨h1,h2,?_⟩;obtain⟨ps,rs,cG,run⟩:=c;cases run with
 |pure run=>exact λx aX r ha hr=>by rw[<-h.d];exact h3 x aX r (k9 h.symm ha) hr|rd run=>exact λx hh aX r A V ha hH hr=>by rw[<-h.h];exact h3 x hh aX r A V (k9 h.symm ha) hH hr
 |st run=>exact λx hh aX r h' A V ha hH hr=>by rw[<-h.h];exact h3 x hh aX r h' A V (k9 h.symm ha) hH hr
theorem re(h:tO P E E')(jX:∀i,E'.ro i=none)(hX:bG P E T X):bG P E' T X:=⟨λ_=>jX,λk i _ _=>jX _,λe t ht=>Uk h (hX.ty e t ht),λf c hc=>Ry h (hX.mA f c hc),hX.obj,hX.map,hX.M3,hX.Tr,hX.mq⟩
end
section
variable{P:Program}{E:Env}{U:cm}{T:da U.C}{X:Ctx U}{w0:World}{I0:Cells}{n:Nat}
variable(L:Lawful U T)
theorem KT{q:St}(h:lz P E w0 I0 n c (λe q=>∃q2,j6 P E w0 I0 n q q2/\Q e q2) (λx q=>∃q2,(∀a w I be,aC P E w0 I0 n q a w I be->aC P E w0 I0 n q2 a w I be)/\Z x q2) q):lz P E w0 I0 n c Q Z q:=by
 intro a w hR;refine wp_mono (h a w hR) λe a' w' he=>?_;cases e with
 |normal=>obtain ⟨s,h1,q2,h2,h3⟩:=he;exact ⟨q2,h2 _ _ h1,h3⟩|exit id=>obtain ⟨s,h1,q2,h2,h3⟩:=he;exact ⟨q2,h2 _ _ h1,h3⟩
 |goto l=>obtain ⟨s,h1,q2,h2,h3⟩:=he;exact ⟨q2,h2 _ _ h1,h3⟩|ret=>obtain ⟨s,h1,q2,h2,h3⟩:=he;exact ⟨q2,h2 _ _ h1,h3⟩
 |panic ch=>obtain⟨x,v,s,I,be,h1,⟨q2,h2,h3⟩,h4,h5⟩:=he;exact⟨x,v,q2,I,be,h1,h3,h2 _ _ _ _ h4,h5⟩|outgrown=>exact he
theorem rV(jX:∀i,E.ro i=none){q:St}{a:Act}{w:World}{I:Cells}{be:Nat->Option Nat}{A:Nat->Option Ob}{V:Nat->Bool}(hA:∀i,A i=none∨A i=nA (q.a i))(hV:∀i,V i=false->q.u i=false)(h:aC P E w0 I0 n q a w I be):aC P E w0 I0 n {q with a:=A,u:=V} a w I be:=by
 have dA:∀i,A i≠none->A i=nA (q.a i):=λi hi=>(hA i).resolve_left hi;have hn:∀i,A i≠none->q.a i≠none:=λi hi e=>by have:=dA i hi;rw[e]at this;exact hi this
 refine⟨h.since,h.size,h.defers,h.cr,h.boxes,h.inj,h.own,h.tie,⟨λi x hx=>?_,λi j B h1 h2 h3 h4=>h.aO.inj i j B ?_ ?_ h3 h4,λi B hi hB=>h.aO.own i B ?_ hB,λi hi=>h.aO.un i (hV i hi),λi x h=>(by rw[jX]at h;cases h)⟩⟩
 ·have hx:A i=some x:=hx;have:=dA i (by rw[hx];simp);rw[hx]at this;obtain⟨z,hz,rfl⟩:=Mc this.symm;obtain⟨B,h1,h2⟩:=h.aO.obj i z hz;exact⟨B,h1,h2.bare⟩
 ·exact hn i h1
 ·exact hn j h2
 ·exact hn i hi
theorem iS{q:St}{A:Nat->Option Ob}{V:Nat->Bool}{ob:Option Nat}:∀{l:List ResultVar}{rs:List RV},gh P n q ob l rs->gh P n {q with a:=A,u:=V} ob l rs
 |[],[],h=>h|[],_::_,h=>h
 |.tmp t::l,[],h=>h|.cell c t::l,[],h=>h
 |.tmp t::l,r::rs,⟨h1,h2,h3⟩=>⟨h1,by show u5 P _ ob (q.r t) r;generalize q.r t=u at h2;cases u<;>cases r<;>exact h2,iS h3⟩
 |.cell c t::l,r::rs,⟨h1,h2,h3⟩=>⟨h1,by
   have hk:∀x,u5 P q ob x r->u5 P {q with a:=A,u:=V} ob x r:=λx hx=>by cases x<;>cases r<;>exact hx
   unfold xv at h2⊢;show match q.r c with
    |.loc d gg sz i k=>match q.b d with
     |some (.cells cs)=>gg=q.g d/\iL P t (cs.drop (i*sz+k)) _|_=>False
    |_=>False
   split
   ·rename_i d gg sz i k hr;rw[hr]at h2;simp only at h2;split
    ·rename_i cs hb;rw[hb]at h2;refine⟨h2.1,?_⟩;have h4:=h2.2;unfold iL at h4⊢;refine⟨h4.1,h4.2.1,?_⟩;have h5:=h4.2.2;split at h5
     ·obtain ⟨xs,e1,e2⟩:=h5;exact ⟨xs,e1,hk _ e2⟩
     ·exact hk _ h5
     ·exact h5
    ·rename_i pW;split at h2
     ·rename_i cs hb;exact (pW cs hb).elim
     ·exact h2
   ·rename_i pW;split at h2
    ·rename_i d gg sz i k hr;exact (pW _ _ _ _ _ hr).elim
    ·exact h2,iS h3⟩
theorem KU{bx:List (Nat×Nat×B U.C)}{ty:Ty}{v:den U.C ty}{a:AV}(h:mT P E T ty v a):bn P E T bx g tick (ael ty v) (.val a):=by
 cases ty with
 |cell t=>obtain⟨ho,rfl⟩:=h;have:=bn.dn (P:=P) (E:=E) (T:=T) (bx:=bx) (g:=g) (tick:=tick) t v 0 ho;rw[CE]at this;exact this|mz p r=>
  obtain⟨f,caps,rfl,h2⟩:=h;exact .sC _ _ (.val (.rJ p r) v _ (.fn f caps) rfl ⟨f,caps,rfl,h2⟩)
 |_=>exact .val _ v _ a rfl h
theorem yh{bx:List (Nat×Nat×B U.C)}{g:Nat->Nat}{tick:Nat}:∀(ps:List Ty)(i:Nat)(x:HL U.C ps)(aX:List AV),fA P E T ps x aX->aX.length=ps.length/\(∀t st r,ao (oA ps i x) t=some (st,r)->st=0)/\∀t,bn P E T bx g tick (match ao (oA ps i x) t with|some e=>e.2|none=>.none) (if i<=t then((aX.map br.val)[t-i]?).getD .none else .none)
 |[],i,x,aX,h=>by have:aX=[]:=h;subst this;exact⟨rfl,λt st r h=>by simp[oA,ao]at h,λt=>.none _⟩|ty::ps,i,x,aX,⟨a,r,h1,h2,h3⟩=>by
  subst h1;obtain⟨g1,g2,g3⟩:=yh (bx:=bx) (g:=g) (tick:=tick) ps (i+1) (wZ ty ps x) r h3;refine⟨by simp[g1],λt st r' h=>?_,λt=>?_⟩
  ·simp only[oA,aI]at h;split at h
   ·simp only[ah,aS]at h;exact h.1.symm
   ·exact g2 t st r' h
  ·simp only[oA,aI];by_cases e:i=t
   ·subst e;simp only[bp,aP,zd,eD,ik,dB];exact KU h2
   ·simp only[e,bY];have:=g3 t;by_cases yS:i<=t
    ·rw[ap (by omega)]at this;rw[ap yS];have e2:t-i=(t-(i+1))+1:=by omega
     rw[e2];simp only[eD,SJ];exact this
    ·rw[ai (by omega)]at this;rw[ai yS];exact this
include L in
theorem XI{rs:List RK}{F:HL U.C ps->Option (iG U cG (HL U.C (rs.map RK.ty)))}(hX:bG P E T X)(hf:P.funcs[f]?=some fn)(kj:(fn.name== "runtime.NumGoroutine")=false)(hb:fn.body=some c)(hn:ps.length<=fn.ntmps)
  (hc:codeOk fn.ntmps c=true) (jX:lZ fn.ntmps fn.results.toList=true) (h0:U.C 0) (hD:∀(w0:World)(I0:Cells)(sB:S U.C)(r:iG U cG (HL U.C (rs.map RK.ty))),D2 P E.plain T X w0 I0 fn.ntmps esc sB r)
  (hF:∀x,Gm X ps rs cG esc fn.results.toList c hint x h0=F x):pn P E T f ps rs cG (.pure F):=by
 intro x aX r dg hr;rw[<-hF x]at hr;have Un:bG P E.plain T X:=re pZ (λ_=>rfl) hX;have ha:=yh (bx:=[]) (g:=λ_=>0) (tick:=1) ps 0 x aX (k9 pZ dg);refine AP hf kj hb (by rw[ha.1];exact hn) λw0 I0=>KT ?_;unfold Gm at hr;have hS:aN P E.plain T X ({r:=oA ps 0 x,b:=[],tick:=1,h:=h0,m:=λ_=>false}:S U.C) (entry aX):=by
  refine⟨λt=>?_,λd=>trivial,λt st y hy=>?_,(λd st y hy=>by cases hy),(λk _ hm=>by cases hm),rfl⟩
  ·have:=ha.2.2 t;rw[S.look_eq];rw[ap (eC _),rA]at this;simp only;cases hl:ao (oA ps 0 x) t with
   |none=>rw[hl]at this;exact this|some e=>rw[hl]at this;exact this
  ·have:=ha.2.1 t st y hy;subst this;exact Nat.zero_lt_one
 refine pX L Un (λ⟨k,hk⟩=>by cases hk) (hD w0 I0 _ r) (λav q' hx=>?_) c hint _ _ _ _ hc (.refl _) hr hS λe s' q' h1 h2 h3=>?_
 ·obtain ⟨p,s',g1,g2,g3,g4,rfl⟩:=hx;refine⟨{q' with a:=sY,u:=lN},λa w I be hR=>rV (λ_=>rfl) (λi=>.inl rfl) (λi hi=>by cases hi) hR,?_⟩;have g3:Fs cG p=some r:=g3;unfold Fs at g3;cases cG with
  |none=>cases g3
  |some pt=>
   obtain⟨tid,t⟩:=pt;simp only at g3;obtain⟨e1,g3⟩:=aq g3;have e1:=bM e1;split at g3
   ·rename_i e he;obtain⟨e2,rfl⟩:=bH he;obtain⟨aew,pt,px⟩:=p;simp only at e1 e2 he;subst e1 e2;obtain rfl:=dc g3;exact⟨rfl,g1.df,rfl,rfl⟩
   ·cases g3
 ·have fin:cO X true fn.results.toList rs s' (λs y=>some (zw cG y))=some r->∀e',(e'=bZ.normal∨e'=bZ.ret)->∃q2,j6 P E.plain w0 I0 fn.ntmps q' q2/\S3 P fn (qU T rs cG r) e' q2:=by
   intro h3 e' zg;obtain⟨s2,y,k1,k2,k3⟩:=wu (w0:=w0) (I0:=I0) (n:=fn.ntmps) L Un _ rs s' (λ⟨k,hk⟩=>by rw[h2.m]at hk;cases hk) h3 jX;obtain⟨q2,ob,m1,m2,m3,m4,m5⟩:=k3 q' h1;simp only[ah]at k1;have mJ:qU T rs cG r=.ret (cB T rs y):=by
    subst k1;cases cG with
    |none=>rfl|some pt=>rfl
   refine⟨{q2 with a:=sY,u:=lN},λa w hR=>?_,?_⟩
   ·obtain ⟨I,be,hR⟩:=m1 a w hR;exact⟨I,be,rV (λ_=>rfl) (λi=>.inl rfl) (λi hi=>by cases hi) hR⟩
   ·rw[mJ];rcases zg with rfl|rfl
    ·exact ⟨m5,⟨m2.df,rfl,rfl⟩,ob,iS m4⟩
    ·exact ⟨m5,⟨m2.df,rfl,rfl⟩,ob,iS m4⟩
  cases e with
  |normal=>exact fin h3 _ (.inl rfl)|exit id=>cases h3
  |ret=>exact fin h3 _ (.inr rfl)
end
section
variable{P:Program}{E:Env}{U:cm}{T:da U.C}{X:Ctx U}{w0:World}{I0:Cells}{n:Nat}
variable(L:Lawful U T)
def aK(T:da U.C)(h:U.C 0)(k j:Nat):Option Ob:=if k<U.nk then match(U.get k h)[j]? with
 |some x=>Dz T (U.ak k) x|none=>none
 else none
def uK(U:cm)(h:U.C 0)(k j:Nat):Bool:=if k<U.nk then((U.get k h)[j]?).isSome else true
def WH(T:da U.C)(h:U.C 0)(i:Nat):Option Ob:=aK T h (i%1000) (i/1000)
def XJ(U:cm)(h:U.C 0)(i:Nat):Bool:=uK U h (i%1000) (i/1000)
include L in
theorem XK(h:U.C 0)(m:Nat->Bool):fa T m h (WH T h) (XJ U h):=λk hk _ i=>by
 have h1:dk k i%1000=k:=by have:=L.nk;unfold dk;omega
 have h2:dk k i/1000=i:=by have:=L.nk;unfold dk;omega
 have e1:WH T h (dk k i)=aK T h k i:=by unfold WH;rw[h1,h2]
 have e2:XJ U h (dk k i)=uK U h k i:=by unfold XJ;rw[h1,h2]
 rw[e1,e2];unfold aK uK;rw[ap hk,ap hk];cases(U.get k h)[i]? with
 |none=>exact ⟨rfl,rfl⟩|some x=>exact vZ T _ x
theorem Pk{h:U.C 0}{q:St}(hH:fa T full h q.a q.u):(∀i,WH T h i=none∨WH T h i=nA (q.a i))/\∀i,XJ U h i=false->q.u i=false:=by
 have hi:∀i,i=dk (i%1000) (i/1000):=Xq;refine⟨λi=>?_,λi hu=>?_⟩
 ·unfold WH aK;by_cases hk:i%1000<U.nk
  ·rw[ap hk];have:=hH _ hk rfl (i/1000);cases hg:(U.get (i%1000) h)[i/1000]? with
   |none=>exact .inl rfl|some x=>rw[hg]at this;simp only at this⊢;rw[<-hi i]at this;exact .inr this.symm
  ·rw[ai hk];exact .inl rfl
 ·unfold XJ uK at hu;by_cases hk:i%1000<U.nk
  ·rw[ap hk]at hu;have:=hH _ hk rfl (i/1000);cases hg:(U.get (i%1000) h)[i/1000]? with
   |none=>rw[hg]at this;rw[<-hi i]at this;exact this.2|some x=>rw[hg]at hu;cases hu
  ·rw[ai hk]at hu;cases hu
abbrev abv(U:cm)(β:Type):=(tz U->S U.C->Option β)->S U.C->(Ex->S U.C->Option β)->Option β
noncomputable def Uo (ps:List Ty) (rs:List RK) (p:Option (TypeId×Ty)) (X:Ctx U) (M9:List ResultVar) (ex:abv U (iG U p (HL U.C (rs.map RK.ty))×U.C 0)) (x:HL U.C ps) (h:U.C 0):Option (iG U p (HL U.C (rs.map RK.ty))×U.C 0):=
 ex (λq s=>A6 s.h (Fs p q)) {r:=oA ps 0 x,b:=[],tick:=1,h:=h} λe s=>match e with
  |.exit _=>none|_=>cO X true M9 rs s λs y=>some (zw p y,s.h)
include L in
theorem ND{rs:List RK}{ex:abv U (iG U cG (HL U.C (rs.map RK.ty))×U.C 0)}{F:HL U.C ps->U.C 0->Option (iG U cG (HL U.C (rs.map RK.ty))×U.C 0)}(hX:bG P E T X)(hf:P.funcs[f]?=some fn)(kj:(fn.name== "runtime.NumGoroutine")=false)(hb:fn.body=some c)(hn:ps.length<=fn.ntmps)
  (jX:lZ fn.ntmps fn.results.toList=true) (hex:∀(A:Nat->Option Ob)(I1:Cells)(w0:World)(I0:Cells)(sB:S U.C)(r:iG U cG (HL U.C (rs.map RK.ty))×U.C 0)(kx:tz U->S U.C->Option (iG U cG (HL U.C (rs.map RK.ty))×U.C 0))(Z:AV->St->Prop),bG P (E.cx A I1) T X->(∀av q',XE P (E.cx A I1) T X sB kx r av q'->Z av q')->∀(s:S U.C)(k:Ex->S U.C->Option (iG U cG (HL U.C (rs.map RK.ty))×U.C 0))(q:St)(Q:bZ->St->Prop),bu sB s->ex kx s k=some r->aN P (E.cx A I1) T X s q->(∀e s' q',aN P (E.cx A I1) T X s' q'->bu s s'->k e s'=some r->Q (ae e) q')->lz P (E.cx A I1) w0 I0 fn.ntmps c Q Z q)
  (hF:∀x h,Uo ps rs cG X fn.results.toList ex x h=F x h):pn P E T f ps rs cG (.st F):=by
 intro x h aX r h' A V dg hH hr;rw[<-hF x h]at hr;have ha:=yh (bx:=[]) (g:=λ_=>0) (tick:=1) ps 0 x aX dg;refine⟨WH T h',XJ U h',XK L h' _,HB hf kj hb (by rw[ha.1];exact hn) λw0 I0=>KT ?_⟩;have Un:bG P (E.cx A I0) T X:=re (p7 A I0) (λ_=>rfl) hX;unfold Uo at hr;have hS:aN P (E.cx A I0) T X ({r:=oA ps 0 x,b:=[],tick:=1,h:=h}:S U.C) (vK aX A V):=by
  refine⟨λt=>?_,λd=>trivial,λt st y hy=>?_,(λd st y hy=>by cases hy),hH,rfl⟩
  ·have:=D4 (p7 (P:=P) (E:=E) A I0) (ha.2.2 t);rw[S.look_eq];rw[ap (eC _),rA]at this;simp only;cases hl:ao (oA ps 0 x) t with
   |none=>rw[hl]at this;exact this|some e=>rw[hl]at this;exact this
  ·have:=ha.2.1 t st y hy;subst this;exact Nat.zero_lt_one
 refine hex A I0 w0 I0 _ (r,h') _ _ Un (λav q' hx=>?_) _ _ _ _ (.refl _) hr hS λe s' q' h1 h2 h3=>?_
 ·obtain ⟨p,s',g1,g2,g3,g4,rfl⟩:=hx;have g3:A6 s'.h (Fs cG p)=some (r,h'):=g3;unfold A6 at g3;split at g3
  ·rename_i r' hp;simp only[ah,aS]at g3;obtain⟨rfl,rfl⟩:=g3;have hh:fa T full s'.h q'.a q'.u:=by have:=g1.heap;rw[g2.m]at this;exact this
   obtain⟨k1,k2⟩:=Pk hh;refine⟨{q' with a:=WH T s'.h,u:=XJ U s'.h},λa w I be hR=>rV (λ_=>rfl) k1 k2 hR,?_⟩;unfold Fs at hp;cases cG with
   |none=>cases hp
   |some pt=>
    obtain⟨tid,t⟩:=pt;simp only at hp;obtain⟨e1,hp⟩:=aq hp;have e1:=bM e1;split at hp
    ·rename_i e he;obtain⟨e2,rfl⟩:=bH he;obtain⟨aew,pt,px⟩:=p;simp only at e1 e2 he;subst e1 e2;obtain rfl:=dc hp;exact⟨rfl,g1.df,rfl,rfl⟩
    ·cases hp
  ·cases g3
 ·have fin:cO X true fn.results.toList rs s' (λs y=>some (zw cG y,s.h))=some (r,h')->∀e',(e'=bZ.normal∨e'=bZ.ret)->∃q2,j6 P (E.cx A I0) w0 I0 fn.ntmps q' q2/\S2 P fn (qU T rs cG r) (WH T h') (XJ U h') e' q2:=by
   intro h3 e' zg;obtain⟨s2,y,k1,k2,k3⟩:=wu (w0:=w0) (I0:=I0) (n:=fn.ntmps) L Un _ rs s' (λ_=>rfl) h3 jX;obtain⟨q2,ob,m1,m2,m3,m4,m5⟩:=k3 q' h1;simp only[ah,aS]at k1;obtain⟨k1,rfl⟩:=k1;have hh:fa T full s2.h q2.a q2.u:=by have:=m2.heap;rw[k2.m,h2.m]at this;exact this
   obtain⟨j1,j2⟩:=Pk hh;have mJ:qU T rs cG r=.ret (cB T rs y):=by
    subst k1;cases cG with
    |none=>rfl|some pt=>rfl
   refine⟨{q2 with a:=WH T s2.h,u:=XJ U s2.h},λa w hR=>?_,?_⟩
   ·obtain ⟨I,be,hR⟩:=m1 a w hR;exact⟨I,be,rV (λ_=>rfl) j1 j2 hR⟩
   ·rw[mJ];rcases zg with rfl|rfl
    ·exact ⟨m5,⟨m2.df,rfl,rfl⟩,ob,iS m4⟩
    ·exact ⟨m5,⟨m2.df,rfl,rfl⟩,ob,iS m4⟩
  cases e with
  |normal=>exact fin h3 _ (.inl rfl)|exit id=>cases h3
  |ret=>exact fin h3 _ (.inr rfl)
include L in
theorem ZU{rs:List RK}{F:HL U.C ps->U.C 0->Option (iG U cG (HL U.C (rs.map RK.ty))×U.C 0)}(hX:bG P E T X)(hf:P.funcs[f]?=some fn)(kj:(fn.name== "runtime.NumGoroutine")=false)(hb:fn.body=some c)(hn:ps.length<=fn.ntmps)
  (hc:codeOk fn.ntmps c=true) (jX:lZ fn.ntmps fn.results.toList=true) (hD:∀(A:Nat->Option Ob)(I1:Cells)(w0:World)(I0:Cells)(sB:S U.C)(r:iG U cG (HL U.C (rs.map RK.ty))×U.C 0),D2 P (E.cx A I1) T X w0 I0 fn.ntmps esc sB r)
  (hF:∀x h,Dx X ps rs cG esc fn.results.toList c hint x h=F x h):pn P E T f ps rs cG (.st F):=
 ND L (ex:=λkx=>exec X kx esc c hint) hX hf kj hb hn jX (λA I1 w0 I0 sB r kx Z Un hZ s k q Q hL h hS hQ=>pX L Un (λ_=>rfl) (hD A I1 w0 I0 sB r) hZ c hint s k q Q hc hL h hS hQ) hF
end
end Go.X
namespace Go.Ev
open Go
section
variable{P:Program}{E:Env}{w0:World}{I0:Cells}{n:Nat}{ops:Array Oper}{Q:bZ->St->Prop}{Z:AV->St->Prop}
def still(ops:Array Oper)(aB:Array Bool):Nat:=((List.range ops.size).filter λi=>aB.getD i true==false).length
theorem filter_lt{α:Type}{p p':α->Bool}:∀{l:List α}{x:α},x∈l->p x=true->p' x=false->(∀y,p' y=true->p y=true)->(l.filter p').length<(l.filter p).length
 |a::l,x,hx,h1,h2,h3=>by
  have hle:∀l:List α,(l.filter p').length<=(l.filter p).length:=λl=>by
   induction l with
   |nil=>exact aP _|cons b l ih=>
    simp only[CV];by_cases hb:p' b=true
    ·simp only[hb,h3 b hb,bp,dE];omega
    ·simp only[hb,gB,bY];split
     ·simp only[dE];omega
     ·exact ih
  simp only[CV];rcases c6.1 hx with rfl|hx
  ·simp only[h1,h2,bp,gB,bY,dE];have:=hle l;omega
  ·have ih:=filter_lt hx h1 h2 h3;by_cases hb:p' a=true
   ·simp only[hb,h3 a hb,bp,dE];omega
   ·simp only[hb,gB,bY];split
    ·simp only[dE];omega
    ·exact ih
theorem GO{aB:Array Bool}{i:Nat}(hi:i∈Region.ready .any ops aB):still ops (aB.setIfInBounds i true)<still ops aB:=by
 obtain⟨h1,o,ho,_⟩:=mem_ready.1 hi;have eK:i<ops.size:=(eT.1 ho).1;refine filter_lt (x:=i) (nT.2 eK) (by rw[h1];rfl) ?_ λy hy=>?_
 ·rcases th i aB.size with h'|h'
  ·simp[h']
  ·simp[F0 h']at h1
 ·by_cases ZD:i=y
  ·subst ZD;simp[h1]
  ·rw[getD_set_ne true ZD]at hy;exact hy
theorem II(ax:gJ n ops=true)(J:Array Bool->St->Prop)
  (step:∀aB s,J aB s->∀i∈Region.ready .any ops aB,∃o,ops[i]?=some o/\((fm ops o s=some true/\Sound P E w0 I0 n o s λs'=>J (aB.setIfInBounds i true) s')∨(fm ops o s=some false/\J (aB.setIfInBounds i true) (s.put o.dst (.fb [])))))
  (fin:∀aB s,J aB s->Region.ready .any ops aB=[]->Q .normal s):∀(nH:Nat)(aB:Array Bool)(s:St)(a:Act)(w:World),still ops aB<=nH->J aB s->Rel P E w0 I0 n s a w->wpAny P .any ops (lift P E w0 I0 n Q Z) nH aB a w
 |0,aB,s,a,w,hf,h,hR=>by
  have h0:Region.ready .any ops aB=[]:=by apply List.eq_nil_iff_forall_not_mem.2;intro i hi;have:=GO hi;omega
  exact⟨h0,s,hR,fin aB s h h0⟩
 |nH+1,aB,s,a,w,hf,h,hR=>by
  refine⟨λh0=>⟨s,hR,fin aB s h h0⟩,λi hi=>?_⟩;obtain⟨o,ho,hy⟩:=step aB s h i hi;have pg:=nB ho;have eK:=GO hi;unfold wpOp;simp only[ho];rcases hy with⟨hw,hs⟩|⟨hw,hJ⟩
  ·rw[oJ ax pg hw hR];simp only[bp];refine .inl (lO (λa' w' ⟨s',h1,h2⟩=>II ax J step fin nH _ s' a' w' (by omega) h2 h1) (hs a w hR _))
  ·rw[oJ ax pg hw hR];simp only[gB,bY];obtain⟨I,be,lr⟩:=hR;exact II ax J step fin nH _ _ _ w (by omega) hJ ⟨I,be,lr.put o.dst (r:=.fb []) ⟨#[],rfl,rfl,λj r hr=>by simp at hr⟩⟩
theorem XL{id:Nat}{s:St}(hm:P.follows .mixedOrders=true)(ax:gJ n ops=true)(J:Array Bool->St->Prop)
  (step:∀aB s,J aB s->∀i∈Region.ready .any ops aB,∃o,ops[i]?=some o/\((fm ops o s=some true/\Sound P E w0 I0 n o s λs'=>J (aB.setIfInBounds i true) s')∨(fm ops o s=some false/\J (aB.setIfInBounds i true) (s.put o.dst (.fb [])))))
  (fin:∀aB s,J aB s->Region.ready .any ops aB=[]->Q .normal s) (h:J (Array.replicate ops.size false) s):lz P E w0 I0 n (.region id ops true) Q Z s:=by
 intro a w hR;refine wp_region_any hm ?_;have lr:Rel P E w0 I0 n s a {w with drawn:=w.drawn+1}:=by obtain⟨I,be,hR⟩:=hR;exact⟨I,be,hR.grow rfl rfl rfl (aP _) (λ_ _=>rfl)⟩
 refine II ax J step fin _ _ s a _ ?_ h lr;unfold still;exact dI (Up _ _) (by simp)
end
end Go.Ev
namespace Go.X
open Go Go.Ev
section
variable{P:Program}{E:Env}{U:cm}{T:da U.C}{X:Ctx U}{s s':S U.C}{q:St}
theorem gL{β:Type}(l:List (Nat×Nat×β)):∀(ts:List Nat)(t:Nat),ao (S.only.vV l ts) t=if t∈ts then ao l t else none
 |[],t=>by simp[S.only.vV,ao]|t'::ts,t=>by
  simp only[S.only.vV];cases h:ao l t' with
  |none=>
   simp only;rw[gL l ts t];by_cases e:t=t'
   ·subst e;simp[h]
   ·simp[e]
  |some x=>
   obtain⟨a,x⟩:=x;simp only[aI];by_cases e:t'=t
   ·subst e;simp[h]
   ·rw[ai e,gL l ts t];simp[c5 e]
theorem dC{C:Nat->Type}{tick:Nat}:∀{rs:List (R C)},mS tick rs=true↔∀r∈rs,dF tick r=true
 |[]=>by simp[mS]|r::rs=>by simp[mS,dC (rs:=rs)]
theorem bn.zV {bx:List (Nat×Nat×B U.C)} {g:Nat->Nat} {tick tick':Nat} {r:R U.C} {u:br} (h:bn P E T bx g tick r u) (hv:dF tick' r=true):bn P E T bx g tick' r u:=by
 induction h with
 |gl d i k mn t x _ TZ hh=>exact .gl d i k mn t x _ (by simpa[dF]using hv) hh|fb rs qs hl h2 ih=>simp only[dF]at hv;exact .fb rs qs hl λi r q hr hq=>ih i r q hr hq (dC.1 hv r (bC hr))
 |fn f caps aX hl h2 ih=>simp only[dF]at hv;exact .fn f caps aX hl λi r av hr eS=>ih i r av hr eS (dC.1 hv r (bC hr))|none=>exact .none _|val t x _ av hq TZ=>exact .val t x _ av hq TZ
 |const v hc=>exact .const v hc|full t xs ho=>exact .full t xs ho
 |loc d k _ hh=>exact .loc d k _ hh|whole d _ hh=>exact .whole d _ hh
 |dn t x k ho=>exact .dn t x k ho|mI tid t x ho=>exact .mI tid t x ho
 |jZ k i off=>exact .jZ k i off|jv k i j off=>exact .jv k i j off
 |sub d off m q hh=>exact .sub d off m q hh|vc rs aX hl h2 h3 ih=>simp only[dF]at hv;exact .vc rs aX hl (λi r av hr eS=>ih i r av hr eS (dC.1 hv r (bC hr))) h3
 |sC r av h ih=>simp only[dF]at hv;exact .sC r av (ih hv)|emp t ho=>exact .emp t ho|it=>exact .it
 |nz f rs aX hl h2 ih=>simp only[dF]at hv;exact .nz f rs aX hl (λi r av hr eS=>ih i r av hr eS (dC.1 hv r (bC hr)))|agg n rs aX hl h2 h3 ih=>simp only[dF]at hv;exact .agg n rs aX hl (λi r av hr eS=>ih i r av hr eS (dC.1 hv r (bC hr))) h3
theorem bn.dF {bx:List (Nat×Nat×B U.C)} {g:Nat->Nat} {tick:Nat} {r:R U.C} {u:br} (h:bn P E T bx g tick r u):Go.X.dF tick r=true:=by
 induction h with
 |gl d i k mn t x _ TZ hh=>simpa[Go.X.dF]using TZ|fb rs qs hl h2 ih=>
  simp only[Go.X.dF];refine dC.2 λr hr=>?_;obtain⟨i,hi⟩:=lK.1 hr;have eK:i<qs.length:=by rw[<-hl];exact (aV.1 hi).1
  exact ih i r _ hi (cq eK)
 |fn f caps aX hl h2 ih=>
  simp only[Go.X.dF];refine dC.2 λr hr=>?_;obtain⟨i,hi⟩:=lK.1 hr;have eK:i<aX.length:=by rw[<-hl];exact (aV.1 hi).1
  exact ih i r _ hi (cq eK)
 |vc rs aX hl h2 h3 ih=>
  simp only[Go.X.dF];refine dC.2 λr hr=>?_;obtain⟨i,hi⟩:=lK.1 hr;have eK:i<aX.length:=by rw[<-hl];exact (aV.1 hi).1
  exact ih i r _ hi (cq eK)
 |sC r av h ih=>simpa[Go.X.dF]using ih|it=>rfl
 |nz f rs aX hl h2 ih=>
  simp only[Go.X.dF];refine dC.2 λr hr=>?_;obtain⟨i,hi⟩:=lK.1 hr;have eK:i<aX.length:=by rw[<-hl];exact (aV.1 hi).1
  exact ih i r _ hi (cq eK)
 |agg n rs aX hl h2 h3 ih=>
  simp only[Go.X.dF];refine dC.2 λr hr=>?_;obtain⟨i,hi⟩:=lK.1 hr;have eK:i<aX.length:=by rw[<-hl];exact (aV.1 hi).1
  exact ih i r _ hi (cq eK)
 |_=>rfl
theorem pI.E6 {bx:List (Nat×Nat×B U.C)} {g:Nat->Nat} {tick st:Nat} {x:B U.C} {u:Option Bx} (h:pI P E T X bx g tick (some (st,x)) u):x.E6 tick=true:=by
 cases x with
 |aT t e xs=>rfl|cells t rs=>
  obtain⟨_,_,cs,_,h4,h5⟩:=h;refine dC.2 λr hr=>?_;obtain⟨i,hi⟩:=lK.1 hr;have eK:i<cs.length:=by rw[<-h4];exact (aV.1 hi).1
  exact(h5 i r _ hi (cq eK)).dF
mutual
theorem iH{C:Nat->Type}{t t':Nat}(h:t<=t'):∀{r:R C},dF t r=true->dF t' r=true
 |.gl _ _ _ mn _ _,hr=>by simp only[dF,gE]at hr⊢;omega|.fb rs,hr=>by simp only[dF]at hr⊢;exact jB h hr
 |.fn _ rs,hr=>by simp only[dF]at hr⊢;exact jB h hr|.none,_=>rfl
 |.val _ _,_=>rfl|.const _,_=>rfl
 |.full _ _,_=>rfl|.loc _ _,_=>rfl
 |.whole _,_=>rfl|.dn _ _ _,_=>rfl
 |.mI _ _ _,_=>rfl|.jZ _ _ _,_=>rfl
 |.jv _ _ _ _,_=>rfl|.sub _ _ _,_=>rfl
 |.vc rs,hr=>by simp only[dF]at hr⊢;exact jB h hr|.sC r,hr=>by simp only[dF]at hr⊢;exact iH h hr
 |.emp _,_=>rfl|.it,_=>rfl
 |.nz _ rs,hr=>by simp only[dF]at hr⊢;exact jB h hr|.agg _ rs,hr=>by simp only[dF]at hr⊢;exact jB h hr
theorem jB{C:Nat->Type}{t t':Nat}(h:t<=t'):∀{rs:List (R C)},mS t rs=true->mS t' rs=true
 |[],_=>rfl|r::rs,hr=>by simp only[mS,aD]at hr⊢;exact⟨iH h hr.1,jB h hr.2⟩
end
theorem B.pr {C:Nat->Type} {t t':Nat} (h:t<=t') {x:B C} (hx:x.E6 t=true):x.E6 t'=true:=by
 cases x with
 |aT _ _ _=>rfl|cells u rs=>exact jB h hx
theorem rW{β:Type}:∀(ds:List Nat)(l:List (Nat×Nat×β))(t:Nat),ao (uy l ds) t=if t∈ds then none else ao l t
 |[],l,t=>by simp[uy]|d::ds,l,t=>by
  simp only[uy];rw[rW ds,aF];by_cases e:t∈ds
  ·simp[e]
  ·by_cases e2:d=t
   ·subst e2;simp[e]
   ·simp[e,e2,c5 e2]
theorem Bn(L:Lawful U T):∀(ks:List Nat)(h h1:U.C 0)(k:Nat),k<U.nk->U.get k (tC U h h1 ks)=if k∈ks then U.get k h1 else U.get k h
 |[],h,h1,k,_=>by simp[tC]|k'::ks,h,h1,k,hk=>by
  simp only[tC];rw[Bn L ks _ _ _ hk];by_cases e:k∈ks
  ·simp[e]
  ·by_cases e2:k=k'
   ·subst e2;simp[e,L.Ch k _ _ hk]
   ·simp[e,e2,L.uz k' k h _ e2]
theorem wv(L:Lawful U T)(ks:List Nat)(h h1:U.C 0)(k:Nat):U.get k (tC U h h1 ks)=if k∈ks then U.get k h1 else U.get k h:=by
 by_cases hk:k<U.nk
 ·exact Bn L ks h h1 k hk
 ·split<;>exact L.Ii _ _ _ (by omega)
end
end Go.X
