import Derived.Test.YtedadjfbbpjaiaaGreatZ29
set_option linter.all false
set_option maxRecDepth 20000
namespace Go.Proofs.Mo
open Go Go.Ev Go.X
theorem iP.ja {t:Option Nat} {own:List bT} {h:Hp} (ht:iP t own h) (l:List (Option (List nb))):iP t own {h with ja:=l}:=by
 rcases ht with h'|⟨h1,h2,hg⟩
 ·exact .inl h'
 ·exact .inr ⟨h1,h2,⟨hg.gz,hg.mj,hg.nodup,hg.len,hg.eQ,hg.opened,hg.named⟩⟩
section
variable{N:Nat}(hN:1073741824<=N)
include hN
theorem tF4(ls:List bT)(m:dX)(hl:ls.length<=1048576):T (F4 N (ls,m,0)) λr=>r=false->ls.length<=20/\m.nodes.length<=80:=by
 unfold F4;refine aj (λ_=>True) (λJ hJ=>?_) ?_;refine aG (λst=>0<=st.fst.snd/\st.fst.snd<=↑ls.length) (λst=>(↑ls.length-st.fst.snd).toNat) ?_ ?_ ?_
 (dsimp only;omega)
 (dsimp only;omega);rintro rec ⟨⟨_,_⟩,_⟩ hI aH;dsimp only at hI;dsimp only;obtain⟨j8,iV⟩:=hI;refine bg (λhb=>?_) λhb=>?_;refine bg (λhb=>?_) λhb=>?_;refine kp (λhb=>?_) λhb=>?_;refine aw ?_ ?_ λx hx bV=>?_;trivial;trivial;refine aw ?_ ?_ λx hx bV=>?_;trivial;trivial;apply aH;dsimp only
 (simp(disch:=omega)only[bq]at*;omega);dsimp only
 (simp(disch:=omega)only[bq]at*;omega);apply hJ;dsimp only;apply hJ;dsimp only;apply hJ;dsimp only;rintro⟨_,_⟩ hR;refine bg (λhb=>?_) λhb=>?_;refine aa ?_;simp(disch:=omega) [bq,bi]at*;refine bg (λhb=>?_) λhb=>?_;refine aa ?_;simp(disch:=omega) [bq,bi]at*;refine bg (λhb=>?_) λhb=>?_;refine aa ?_;simp(disch:=omega) [bq,bi]at*;refine bg (λhb=>?_) λhb=>?_;contradiction;refine aa ?_;omega;all_goals(intro h;simp at h)
theorem amv(n:Nd)(hn:Ao n):T (F16 N n) λr=>r=n:=by have g1:=hn.aW;have g2:=hn.refs;have g3:=hn.kids;unfold F16;exact bO (bi (by omega) (by omega)) (bO (bi (by omega) (by omega)) (bO (bi (by omega) (by omega)) (aa rfl)))
theorem tF6(m:dX)(hm:se m):T (F6 N m) λr=>r=m:=by
 have g4:=hm.len;unfold F6;refine aj (λs=>s.1=(m.next,m.nodes)) (λJ hJ=>?_) (λx hx=>?_)
 ·refine aG (λs=>0<=s.1.1/\s.1.1<=m.nodes.length/\s.1.2=(m.next,m.nodes.take s.1.1.toNat)) (λs=>(m.nodes.length-s.1.1).toNat) ⟨by simp,by simp,by simp⟩ (by dsimp only;omega) ?_;rintro rec ⟨⟨p,a,out⟩,u⟩ ⟨k1,k2,k3⟩ aH;dsimp only at k1 k2 k3;cases k3;refine af (λhb=>?_) (λhb=>hJ _ ?_)
  ·simp only[az]at hb;refine aw k1 hb λx hx bV=>an (amv hN x (hm.node x hx)) λy hy=>?_;subst hy;have ht:m.nodes.take (p.toNat+1)=m.nodes.take p.toNat++[y]:=by obtain⟨hi,rfl⟩:=aV.1 bV;exact(kO hi).symm
   have eK:(m.nodes.take p.toNat).length<=4096:=by rw[my];omega
   refine bO (bi (by simp only[dE,kS];omega) (by simp only[dE,kS];omega)) (aH _ ⟨?_,?_,?_⟩ ?_)<;>dsimp only<;>rw[bq (by omega) (by omega)]
   ·omega
   ·omega
   ·rw[show(p+1).toNat=p.toNat+1 by omega,ht]
   ·omega
  ·simp only[bz,fI]at hb;dsimp only;rw[cV (by omega)]
 ·obtain ⟨⟨a,b⟩,u⟩:=x;cases hx;exact aa rfl
theorem ahd(l:List nb)(hl:l.length<=1048576):T (F11 N (l,l)) λr=>r=true:=by
 unfold F11;refine af (λh=>by simp at h) λ_=>aj (λ_=>True) (λJ hJ=>?_) (λ_ _=>aa rfl);refine jc hN hl (b:=λ_=>false) λrec i pL=>⟨λhi _=>af (λh=>by simp at h;omega) λ_=>hJ _ trivial,λhi=>?_⟩
 have e0:aA l (i:Int)=some l[i]:=ec hi;refine af (λ_=>?_) λh=>by simp at h;omega
 simp only[e0,aU,wV,Lo,fG,bc];rw[oB (by omega)];exact pL rfl hi
theorem amw(l:List Int)(hl:l.length<=1048576):T (F61 N (l,l)) λr=>r=true:=by
 unfold F61;refine af (λh=>by simp at h) λ_=>aj (λ_=>True) (λJ hJ=>?_) (λ_ _=>aa rfl);refine jc hN hl (b:=λ_=>false) λrec i pL=>⟨λhi _=>af (λh=>by simp at h;omega) λ_=>hJ _ trivial,λhi=>?_⟩
 have e0:aA l (i:Int)=some l[i]:=ec hi;refine af (λ_=>?_) λh=>by simp at h;omega
 simp only[e0,aU,wV,fG,bc];rw[oB (by omega)];exact pL rfl hi
theorem amx(n:Nd)(hn:Ao n):T (F31 N (n,n)) λr=>r=true:=by
 have g1:=hn.aW;have g2:=hn.refs;have g3:=hn.kids;unfold F31;simp only[wV,fG,bc];refine aj (λ_=>True) (λJ hJ=>?_) (λ_ _=>aj (λ_=>True) (λJ hJ=>?_) (λ_ _=>an (amw hN n.kids g3) λy hy=>aa hy))
 ·refine jc hN g1 (b:=λ_=>false) λrec i pL=>⟨λhi _=>af (λh=>by simp at h;omega) λ_=>hJ _ trivial,λhi=>?_⟩
  have e0:aA n.aW (i:Int)=some n.aW[i]:=ec hi;refine af (λ_=>?_) λh=>by simp at h;omega
  simp only[e0,aU,wV,Lo,fG,bc];rw[oB (by omega)];exact pL rfl hi
 ·refine jc hN g2 (b:=λ_=>false) λrec i pL=>⟨λhi _=>af (λh=>by simp at h;omega) λ_=>hJ _ trivial,λhi=>?_⟩
  have e0:aA n.refs (i:Int)=some n.refs[i]:=ec hi;refine af (λ_=>?_) λh=>by simp at h;omega
  simp only[e0,aU,wV,Lo,fG,bc];rw[oB (by omega)];exact pL rfl hi
theorem amy(m:dX)(hm:se m):T (F12 N (m,m)) λr=>r=true:=by
 have g4:=hm.len;unfold F12;simp only[wV,fG,bc];refine aj (λ_=>True) (λJ hJ=>?_) (λ_ _=>aa rfl);refine jc hN (n:=m.nodes.length) (by omega) (b:=λ_=>false) λrec i pL=>⟨λhi _=>af (λh=>by simp at h;omega) λ_=>hJ _ trivial,λhi=>?_⟩
 have e0:aA m.nodes (i:Int)=some m.nodes[i]:=ec hi;refine af (λ_=>?_) λh=>by simp at h;omega
 simp only[e0,aU];refine an (amx hN _ (hm.node _ (fx hi))) λy hy=>?_;subst hy;simp only[fG,bc];rw[oB (by omega)];exact pL rfl hi
theorem ahe(i n:Nat)(h:Hp)(hn:n<=64)(ha:0<n->∃l,fk h.ja i=some l/\n<=l.length):T (RY N (some (i,n)) h) λr=>∃l,r.2={h with ja:=l}:=by
 unfold RY;refine aG (λs=>0<=s.1/\s.1<=n/\∃l0,s.2={h with ja:=l0}/\(0<n->∃l,fk l0 i=some l/\n<=l.length)) (λs=>(n-s.1).toNat) ⟨by simp,by simp,h.ja,rfl,ha⟩ (by dsimp only;omega) ?_;rintro rec ⟨p,h1⟩ ⟨k1,k2,l0,k3,k4⟩ aH;dsimp only at k1 k2 k3;subst k3;refine af (λhb=>?_) (λhb=>aa ⟨l0,rfl⟩);have hb:p<(n:Int):=eF hb;obtain⟨l,BA,E4⟩:=k4 (by omega);simp only[aU];refine bO (by simp;omega) ?_;simp only[BA,aU];have ui:i<l0.length:=by
  unfold fk at BA;cases e:l0[i]? with
  |none=>rw[e]at BA;cases BA
  |some x=>exact (aV.1 e).1
 have xm:p.toNat<l.length:=by omega
 rw[cq xm,aU,bq (by omega) (by omega)];refine eJ (aH _ ⟨by dsimp only;omega,by dsimp only;omega,l0.set i (some (l.set p.toNat (nb.mk [115,112,111,105,108,116] (-9)))),rfl,λ_=>⟨l.set p.toNat (nb.mk [115,112,111,105,108,116] (-9)),by simp[fk,ui],by simpa using E4⟩⟩ (by dsimp only;omega))
theorem tF5(ls:List bT)(hl:gA ls):T (F5 N ls Pv) λr=>iP r.1.1 r.1.2 r.2:=by
 unfold F5;refine an (al6 hN ls hl) λy hy=>?_;rcases hy with⟨hy,_⟩|⟨hy,hg⟩
 ·refine af (λ_=>aa (.inl ⟨rfl,rfl⟩)) λh=>?_;simp at h;exact (hy h).elim
 ·rw[hy];refine af (λh=>by simp at h) λ_=>an (alw hN ls hl hg.nodup) λz _=>af (λ_=>aa (.inl ⟨rfl,rfl⟩)) λ_=>aa (.inr ⟨rfl,hl,hg⟩)
omit hN in
theorem LU(own:List bT)(kd:cg)(o6:List bE):(cy own kd o6).1.length<=64:=by unfold cy Oc;simp only[cM,my];omega
omit hN in
theorem Wg(own:List bT)(m:dX)(parent:Int)(role:bE):(dz own m parent role).1.length<=64:=by
 unfold dz
 repeat' split
 all_goals first|exact LU _ _ _|simp
omit hN in
theorem LV(own:List bT)(m:dX)(id:Int):(cz own m id).1.length<=64:=by
 unfold cz
 repeat' split
 all_goals first|exact LU _ _ _|simp
theorem law(ls:List bT)(hl:gA ls)(m:dX)(hm:∀n∈m.nodes,Ao n)(parent:Int)(hp:yJ parent)(role:bE)(id:Int)(nP:yJ id):T (F3 N (ls,m,parent,role,id) Pv) λr=>r.1=true:=by
 unfold F3;refine an (tF4 hN ls m hl.len) λy hy=>af (λ_=>aa rfl) λhy0=>?_;obtain⟨_,h80⟩:=hy hy0;have Rn:se m:=⟨by omega,hm⟩
 refine an (tF5 hN ls hl) λy2 ht=>an (tF6 hN m Rn) λy3 h3=>?_;subst h3;refine an (tF7 hN y2.1.1 y2.1.2 y3 Rn parent role y2.2 ht) λy4 h4=>an (tF8 hN y2.1.1 y2.1.2 y3 Rn id y2.2 ht) λy5 h5=>?_;subst h4 h5;have hk:=Wg y2.1.2 y3 parent role;have qu:=LV y2.1.2 y3 id;have aaD:∀(l:List nb)(h:Hp)(hl:l.length<=64)(hn:l.isEmpty=false),T (RY N (some (h.ja.length,l.length)) {h with ja:=h.ja++[some l]}) λr=>∃l',r.2={h with ja:=l'}:=λl h hl hn=>ahe hN _ _ _ hl λ_=>⟨l,by simp[fk],aP _⟩
 have Wh:∀(h:Hp)(i:Nat),T (RY N (some (i,0)) h) λr=>∃l',r.2={h with ja:=l'}:=λh i=>ahe hN _ _ _ (by omega) λh=>absurd h (by omega);refine aj (λ_=>True) (λJ hJ=>?_) (λ_ _=>aa rfl);refine aG (λs=>0<=s.1/\s.1<=2/\iP y2.1.1 y2.1.2 s.2) (λs=>(2-s.1).toNat) ⟨by simp,by simp,ht⟩ (by dsimp only;omega) ?_;rintro rec ⟨p,h⟩ ⟨k1,k2,k3⟩ aH;dsimp only at k1 k2 k3;refine af (λhb=>?_) (λhb=>hJ _ trivial);simp only[az]at hb;have next:∀h',iP y2.1.1 y2.1.2 h'->T (rec (IntKind.i64.wrap (p+1),h')) λr=>r.1=true:=λh' ot=>aH _ ⟨by dsimp only;rw[bq (by omega) (by omega)];omega,by dsimp only;rw[bq (by omega) (by omega)];omega,ot⟩ (by dsimp only;rw[bq (by omega) (by omega)];omega);refine an (tF9 hN y2.1.1 y2.1.2 y3 Rn parent hp role h.ja h k3 rfl) λa ⟨a1,a2,a3⟩=>an (amu hN y2.1.1 y2.1.2 y3 Rn id nP h.ja a.2 a2 a3) λb ⟨b1,b2,b3⟩=>?_;rw[a1,b1];refine an (ahd hN _ (by omega)) λc hc=>?_;subst hc;simp only[fG,bc,wV];refine an (ahd hN _ (by omega)) λc hc=>?_;subst hc;simp only[fG,bc];refine an (amy hN y3 Rn) λc hc=>?_;subst hc;simp only[fG,bc];have second:∀(h':Hp),iP y2.1.1 y2.1.2 h'->T (bif (cz y2.1.2 y3 id).1.isEmpty then(RY N (some (h'.ja.length,0)) h').bind λy80=>rec (IntKind.i64.wrap (p+1),y80.2)else(db (!(cz y2.1.2 y3 id).1.isEmpty)).bind λ_=>cP {h' with ja:=h'.ja++[some (cz y2.1.2 y3 id).1]} λh81=>(RY N (some (h'.ja.length,(cz y2.1.2 y3 id).1.length)) h81).bind λy80=>rec (IntKind.i64.wrap (p+1),y80.2)) λr=>r.1=true:=λh' ot=>af (λ_=>an (Wh h' _) λz ⟨l',hz⟩=>by rw[hz];exact next _ (ot.ja l')) λhe=>bO (by rw[he];rfl) (eJ (an (aaD _ h' qu he) λz ⟨l',hz⟩=>by rw[hz];exact next _ (ot.ja l')));refine af (λ_=>an (Wh b.2 _) λz ⟨l',hz⟩=>?_) λhe=>bO (by rw[he];rfl) (eJ (an (aaD _ b.2 hk he) λz ⟨l',hz⟩=>?_))
 ·rw[hz];exact second _ (b2.ja l')
 ·rw[hz];exact second _ (b2.ja l')
end
end Go.Proofs.Mo
