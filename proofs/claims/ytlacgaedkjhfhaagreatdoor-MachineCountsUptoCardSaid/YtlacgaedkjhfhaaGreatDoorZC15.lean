import Derived.Test.YtlacgaedkjhfhaaGreatDoorZC14
set_option linter.all false
set_option maxRecDepth 20000
open Option renaming some->O,none->Y
open Bool renaming true->W,false->F
open Go.Proofs.Tryz
noncomputable section
namespace Go.Proofs.Mo
open Go Go.Ev Go.X Go.Proofs
section
def eL.below {E:cm} {w0 w:zI} {I0:aD} (d:E.h5 w0) (e:∀p,I0 p->p.block<w0.heap.size/\¬E.cB w0 p.block) (a:RowKit.Below w0.heap.size w0 w):eL E w0 I0 w I0:=(eL.refl d e).step a.os a.tape a.output a.size (λ_=>False) (λk b _=>a.block k b) (λk b=>b.elim) (λB cur t f c=>⟨cur,(a.block B (h4.1 c).1).trans c,rfl⟩) (λ_ h=>h) rfl (λ_ h=>.inl h)
def Eu{P:qK}{E:cm}{f:JC}{d:Z AV}{v:Jz}{rs:Z Jz}(l:Enters P f)(g:∀x∈rs,Tk x)(hv:(∃x,rs=[x]/\v=x)∨(1<rs.length/\v=.tuple rs.toArray))
  (h:∀(w0:zI)(I0:aD)(vs:Array Jz),E.h5 w0->k8 w0 I0 vs.toList d->Calls P f vs w0 λe w=>e=.returned v/\RowKit.Below w0.heap.size w0 w):nm P E f d (.ret (rs.map λx=>.v (.fl x))):=by
 refine⟨l,λw0 I0 vs i m n=>(h w0 I0 vs i n).mono λe w o=>?_⟩;obtain⟨rfl,p⟩:=o;refine⟨v,I0,λ_=>Y,rfl,eL.below (E:=E.plain) i m p,?_,(λj s B h=>by cases h),(λj B h=>by cases h),my.none λ_=>rfl⟩;rcases hv with⟨x,rfl,rfl⟩|⟨q,rfl⟩
 .exact .fl _ (g _ aE)
 .match rs,q with
  |a::b::rs,_=>
   refine⟨_,rfl,aE,λj r c=>?_⟩;replace c:((a::b::rs).map λx=>RV.v (AV.fl x))[j]?=O r:=c;rw[dC,ck]at c;obtain⟨x,k,rfl⟩:=c;have:(a::b::rs).toArray.getD j undef=x:=by simp only[jl,zP,k,eP]
   show cq _ _ _ _;rw[this];exact .fl _ (g _ (bF k))
def acR{w:zI}{I:aD}{vs:Array Jz}{x:Jz}(h:k8 w I vs.toList [.fl x]):vs=#[x]:=by
 obtain⟨a,b⟩:=h;have h0:=cb (b 0 (vs.toList.getD 0 undef) _ (by
  have:0<vs.toList.length:=by rw[a];simp
  rw[bS this];simp[qo,bS this]) rfl)
 apply yT
 .simpa using a
 .intro j c d;have:j=0:=by simp at d;omega
  subst this;simpa[qo,c]using h0
variable(N:Nat)
def XW(N:Nat):Int×Int->V cI:=λ(n,b)=>(cR (decide (b=10)&&(decide (-9223372036854775808<=n)&&decide (n<=9223372036854775807)))).bind λ_=>O (Lib.itoa n)
abbrev acS:b7 U:=⟨[.I,.I],[.v .str],Y,.pure (XW N)⟩
def Cg(N:Nat):cI->V (Int×Int):=λs=>(cR (decide (s.length<=281474976710656))).bind λ_=>O (mM s)
abbrev acT:b7 U:=⟨[.str],[.v .I,.v .I],Y,.pure (Cg N)⟩
def acU:Holds 219 (acT N):=λE f=>hp au (by intro s j r g b;obtain⟨a,_,rfl,⟨_,rfl⟩,rfl⟩:=g;obtain⟨_,d,b⟩:=bind_some b;have d:=di (dp d);obtain rfl:=cr b;change cI at s;refine Eu (v:=.tuple #[.int .i64 (mM s).1,.int .i64 (mM s).2]) (rs:=[.int .i64 (mM s).1,.int .i64 (mM s).2]) (Go.Proofs.enters_of (fn:=f219) au au (c:=f219.body.getD .skip) au) (λx e=>by simp at e;rcases e with rfl|rfl<;>rfl) (.inr ⟨aE,rfl⟩) λw0 I0 vs h i=>?_;obtain rfl:=acR (x:=bs s) i;have:=XV ⟨s.toArray⟩ (by simpa[ByteArray.size]using d) w0 (f.laid w0 h);simpa[bs]using this)
def acV:Holds 253 (acS N):=λE k=>hp au (by
 intro x t r l d;obtain⟨a,_,rfl,⟨_,rfl⟩,b,_,rfl,⟨_,rfl⟩,rfl⟩:=l;obtain⟨n,b⟩:=x;change Int at n b;obtain⟨_,e,d⟩:=bind_some d;have e:=dp e;simp only[aI,aU]at e;obtain⟨f,m,o⟩:=e;obtain rfl:=cr d;refine Eu (v:=bs (Lib.itoa n)) (rs:=[bs (Lib.itoa n)]) (Go.Proofs.enters_of (fn:=f253) au au (c:=f253.body.getD .skip) au) (λx h=>by simp at h;subst h;rfl) (.inl ⟨_,rfl,rfl⟩) λw0 I0 vs p q=>?_;have s:vs=#[.int .i64 n,.int .i64 b]:=by
  obtain⟨g,d⟩:=q;have g:vs.size=2:=by simpa using g
  have h0:=cb (d 0 vs[0] (.fl (.int .i64 n)) aE rfl);have f:=cb (d 1 vs[1] (.fl (.int .i64 b)) aE rfl);apply yT
  .simpa using g
  .intro j i u;match j,i with
   |0,_=>simpa using h0|1,_=>simpa using f
   |j+2,i=>omega
 subst s;exact Gz n b f m o w0 (k.laid w0 p))
end
end Go.Proofs.Mo
namespace Go.Proofs.Mo
open Go Go.Ev Go.X
open Go.IntKind renaming i64->Wk
def OI(N:Nat):V Nat->Hp->V (xW×Hp):=λg h=>
 g.bind λA0=>
 (h.dU[A0]?).bind λB0=>
 (dX h.jk B0.lh).bind λi=>
 (cR (decide (0<=(i.length:Int))&&cE 16 ((i.length:Int).toNat) 281474976710656)).bind λ_=>
 g.bind λt=>
 bif (List.replicate (i.length:Int).toNat (dB.mk 0 0:dB)).isEmpty then
  (h.dU[t]?).bind λl=>
  bw {h with dU:=h.dU.set t (zz.mk l.lh l.qw (v7.mk (hW.mk) (vY.mk (hX.mk) l.ready.done.v) (pY.mk (hW.mk) l.ready.m.mu)) (O (h.hQ.length,0)) (Gx.mk (hX.mk) (mL.mk) l.mw.v))} λz=>
  g.bind λC0=>
  (z.dU[C0]?).bind λD0=>
  D0.lh.bind λE0=>
  (z.jk[E0]?).bind λv0=>
  kC (λ(w0:cI×(V Nat))((_,b0):xW×Hp) G0=>
   aZ (λu((e,a):(V Nat)×Hp)=>
    bif !e.isNone then
     g.bind λH0=>
     (a.dU[H0]?).bind λm=>
     w0.2.bind λI0=>
     (a.et[I0]?).bind λc=>
     e.bind λs2=>
     (a.et[s2]?).bind λj=>
     (cR (decide (64≠0))).bind λ_=>
     m.bits.bind λq=>
     (cR (decide (0<=c.number)&&decide (c.number<(q.2:Int)))).bind λ_=>
     bif bp (Wk.wrap (j.number.tdiv 64)) 0 then
      (bz a.hQ q.1).bind λJ0=>
      (J0[c.number.toNat]?).bind λG=>
      e.bind λK0=>
      (a.et[K0]?).bind λv=>
      (cR (decide (64≠0))).bind λ_=>
      (cR (decide (0<=v.number.tmod 64))).bind λ_=>
      m.bits.bind λn=>
      (cR (decide (0<=c.number)&&decide (c.number<(n.2:Int)))).bind λ_=>
      bif bp (Wk.wrap (j.number.tdiv 64)) 0 then
       (bz a.hQ n.1).bind λH=>
       (H[c.number.toNat]?).bind λL0=>
       bw {a with hQ:=a.hQ.set n.1 (O (H.set c.number.toNat (dB.mk (IntKind.u64.wrap ((BitVec.ofInt IntKind.u64.bits G.e0|||BitVec.ofInt IntKind.u64.bits (IntKind.u64.wrap (1*2^(min ((v.number.tmod 64).toNat) IntKind.u64.bits)))).toNat)) L0.e1)))} λI=>
       e.bind λN0=>
       (I.et[N0]?).bind λP0=>
       u (P0.up,I)
      else
      bif bp (Wk.wrap (j.number.tdiv 64)) 1 then
       (bz a.hQ n.1).bind λJ=>
       (J[c.number.toNat]?).bind λQ0=>
       bw {a with hQ:=a.hQ.set n.1 (O (J.set c.number.toNat (dB.mk Q0.e0 (IntKind.u64.wrap ((BitVec.ofInt IntKind.u64.bits G.e0|||BitVec.ofInt IntKind.u64.bits (IntKind.u64.wrap (1*2^(min ((v.number.tmod 64).toNat) IntKind.u64.bits)))).toNat)))))} λK=>
       e.bind λR0=>
       (K.et[R0]?).bind λS0=>
       u (S0.up,K)
      else
      Y
     else
     bif bp (Wk.wrap (j.number.tdiv 64)) 1 then
      (bz a.hQ q.1).bind λT0=>
      (T0[c.number.toNat]?).bind λL=>
      e.bind λU0=>
      (a.et[U0]?).bind λw=>
      (cR (decide (64≠0))).bind λ_=>
      (cR (decide (0<=w.number.tmod 64))).bind λ_=>
      m.bits.bind λo=>
      (cR (decide (0<=c.number)&&decide (c.number<(o.2:Int)))).bind λ_=>
      bif bp (Wk.wrap (j.number.tdiv 64)) 0 then
       (bz a.hQ o.1).bind λP=>
       (P[c.number.toNat]?).bind λX0=>
       bw {a with hQ:=a.hQ.set o.1 (O (P.set c.number.toNat (dB.mk (IntKind.u64.wrap ((BitVec.ofInt IntKind.u64.bits L.e1|||BitVec.ofInt IntKind.u64.bits (IntKind.u64.wrap (1*2^(min ((w.number.tmod 64).toNat) IntKind.u64.bits)))).toNat)) X0.e1)))} λQ=>
       e.bind λa1=>
       (Q.et[a1]?).bind λe1=>
       u (e1.up,Q)
      else
      bif bp (Wk.wrap (j.number.tdiv 64)) 1 then
       (bz a.hQ o.1).bind λR=>
       (R[c.number.toNat]?).bind λf1=>
       bw {a with hQ:=a.hQ.set o.1 (O (R.set c.number.toNat (dB.mk f1.e0 (IntKind.u64.wrap ((BitVec.ofInt IntKind.u64.bits L.e1|||BitVec.ofInt IntKind.u64.bits (IntKind.u64.wrap (1*2^(min ((w.number.tmod 64).toNat) IntKind.u64.bits)))).toNat)))))} λS=>
       e.bind λh1=>
       (S.et[h1]?).bind λi1=>
       u (i1.up,S)
      else
      Y
     else
     Y
    else G0 ((),a)) N (w0.2,b0)) (λ((_,b0):xW×Hp)=>
   O ((),b0)) v0.length v0 ((),z)
 else
 (cR (!(List.replicate (i.length:Int).toNat (dB.mk 0 0:dB)).isEmpty)).bind λ_=>
 bw {h with hQ:=h.hQ++[O (List.replicate (i.length:Int).toNat (dB.mk 0 0:dB))]} λm0=>
 (m0.dU[t]?).bind λp=>
 bw {m0 with dU:=m0.dU.set t (zz.mk p.lh p.qw (v7.mk (hW.mk) (vY.mk (hX.mk) p.ready.done.v) (pY.mk (hW.mk) p.ready.m.mu)) (O (h.hQ.length,(List.replicate (i.length:Int).toNat (dB.mk 0 0:dB)).length)) (Gx.mk (hX.mk) (mL.mk) p.mw.v))} λx=>
 g.bind λl1=>
 (x.dU[l1]?).bind λo1=>
 o1.lh.bind λu1=>
 (x.jk[u1]?).bind λT=>
 kC (λ(q1:cI×(V Nat))((_,A):xW×Hp) A1=>
  aZ (λy((f,b):(V Nat)×Hp)=>
   bif !f.isNone then
    g.bind λB1=>
    (b.dU[B1]?).bind λB=>
    q1.2.bind λC1=>
    (b.et[C1]?).bind λd=>
    f.bind λD1=>
    (b.et[D1]?).bind λk=>
    (cR (decide (64≠0))).bind λ_=>
    B.bits.bind λC=>
    (cR (decide (0<=d.number)&&decide (d.number<(C.2:Int)))).bind λ_=>
    bif bp (Wk.wrap (k.number.tdiv 64)) 0 then
     (bz b.hQ C.1).bind λE1=>
     (E1[d.number.toNat]?).bind λU=>
     f.bind λG1=>
     (b.et[G1]?).bind λD=>
     (cR (decide (64≠0))).bind λ_=>
     (cR (decide (0<=D.number.tmod 64))).bind λ_=>
     B.bits.bind λr=>
     (cR (decide (0<=d.number)&&decide (d.number<(r.2:Int)))).bind λ_=>
     bif bp (Wk.wrap (k.number.tdiv 64)) 0 then
      (bz b.hQ r.1).bind λX=>
      (X[d.number.toNat]?).bind λH1=>
      bw {b with hQ:=b.hQ.set r.1 (O (X.set d.number.toNat (dB.mk (IntKind.u64.wrap ((BitVec.ofInt IntKind.u64.bits U.e0|||BitVec.ofInt IntKind.u64.bits (IntKind.u64.wrap (1*2^(min ((D.number.tmod 64).toNat) IntKind.u64.bits)))).toNat)) H1.e1)))} λa0=>
      f.bind λI1=>
      (a0.et[I1]?).bind λJ1=>
      y (J1.up,a0)
     else
     bif bp (Wk.wrap (k.number.tdiv 64)) 1 then
      (bz b.hQ r.1).bind λe0=>
      (e0[d.number.toNat]?).bind λK1=>
      bw {b with hQ:=b.hQ.set r.1 (O (e0.set d.number.toNat (dB.mk K1.e0 (IntKind.u64.wrap ((BitVec.ofInt IntKind.u64.bits U.e0|||BitVec.ofInt IntKind.u64.bits (IntKind.u64.wrap (1*2^(min ((D.number.tmod 64).toNat) IntKind.u64.bits)))).toNat)))))} λf0=>
      f.bind λL1=>
      (f0.et[L1]?).bind λN1=>
      y (N1.up,f0)
     else
     Y
    else
    bif bp (Wk.wrap (k.number.tdiv 64)) 1 then
     (bz b.hQ C.1).bind λP1=>
     (P1[d.number.toNat]?).bind λh0=>
     f.bind λQ1=>
     (b.et[Q1]?).bind λE=>
     (cR (decide (64≠0))).bind λ_=>
     (cR (decide (0<=E.number.tmod 64))).bind λ_=>
     B.bits.bind λs=>
     (cR (decide (0<=d.number)&&decide (d.number<(s.2:Int)))).bind λ_=>
     bif bp (Wk.wrap (k.number.tdiv 64)) 0 then
      (bz b.hQ s.1).bind λi0=>
      (i0[d.number.toNat]?).bind λR1=>
      bw {b with hQ:=b.hQ.set s.1 (O (i0.set d.number.toNat (dB.mk (IntKind.u64.wrap ((BitVec.ofInt IntKind.u64.bits h0.e1|||BitVec.ofInt IntKind.u64.bits (IntKind.u64.wrap (1*2^(min ((E.number.tmod 64).toNat) IntKind.u64.bits)))).toNat)) R1.e1)))} λl0=>
      f.bind λS1=>
      (l0.et[S1]?).bind λT1=>
      y (T1.up,l0)
     else
     bif bp (Wk.wrap (k.number.tdiv 64)) 1 then
      (bz b.hQ s.1).bind λo0=>
      (o0[d.number.toNat]?).bind λU1=>
      bw {b with hQ:=b.hQ.set s.1 (O (o0.set d.number.toNat (dB.mk U1.e0 (IntKind.u64.wrap ((BitVec.ofInt IntKind.u64.bits h0.e1|||BitVec.ofInt IntKind.u64.bits (IntKind.u64.wrap (1*2^(min ((E.number.tmod 64).toNat) IntKind.u64.bits)))).toNat)))))} λu0=>
      f.bind λX1=>
      (u0.et[X1]?).bind λa2=>
      y (a2.up,u0)
     else
     Y
    else
    Y
   else A1 ((),b)) N (q1.2,A)) (λ((_,A):xW×Hp)=>
  O ((),A)) T.length T ((),x)
abbrev acW(N:Nat):b7 U:=⟨[ahA],[],Y,.st (OI N)⟩
def acX(N:Nat):Holds 251 (acW N):=gM N f251 (.q (.FG ⟨W,[0,17],[],[],[]⟩ (.q (.block (.loop ⟨W,[0,2,17],[(3,.val aie)],[],[]⟩ .aC))))) nl
end Go.Proofs.Mo
