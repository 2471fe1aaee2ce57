import Derived.Test.YtlacgaedkjhfhaaGreatDoorProg
import Derived.Lib.LaidTab
import Derived.Lib.ItoaNum
import Derived.Test.YtlacgaedkjhfhaaGreatDoorZC11
set_option linter.all false
open Option renaming some->O,none->Y
open Bool renaming true->W,false->F
namespace Go.Ev
open Go
section
variable{P:qK}{E:cm}{w0 w w':zI}{I0 I:aD}{a a0 a':Nat->V Ob}{u u':Nat->tl}{Mloc:Nat->Prop}
end
end Go.Ev
namespace Go.X
open Go Go.Ev
def ZS{C:Nat->Type}:R C->V JC->tl
 |.fn g [],O g'=>Nat.beq g g'|.const .nilFunc,Y=>W
 |_,_=>F
def IQ{C:Nat->Type}:Z (R C)->Z (V JC)->tl
 |[],[]=>W|r::rs,f::fs=>ZS r f&&IQ rs fs
 |_,_=>F
section
variable{P:qK}{E:cm}{U:cg}{T:dm U.C}{X:gj U}{n:Nat}
variable(L:cw U T)
def IS{bx:Z (Nat×Nat×B U.C)}{g:Nat->Nat}{tick:Nat}:∀{rs:Z (R U.C)}{cs:Z cy}{fs:Z (V JC)},ee P E T bx g tick rs cs->IQ rs fs=W->cZ cs=O (fs.map pb)/\cs.length=fs.length
 |[],[],[],_,_=>⟨rfl,rfl⟩|[],[],_::_,_,h=>by cases h
 |[],_::_,_,h,_=>by have:=h.1;simp at this|_::_,[],_,h,_=>by have:=h.1;simp at this
 |_::_,_::_,[],_,h=>by cases h
 |r::rs,c::cs,f::fs,h,b=>by
  simp only[IQ,aI]at b;obtain⟨e,j⟩:=IS (rs:=rs) (cs:=cs) (fs:=fs) ⟨by simpa using h.1,λi r c k d=>h.2 (i+1) r c (by simpa using k) (by simpa using d)⟩ b.2;have h0:=h.2 0 r c rfl rfl;have d:bu c=O (pb f):=by
   have a:=b.1;unfold ZS at a;split at a
   .rename_i g g';obtain rfl:=bV a;cases h0 with
    |fn _ _ l m n=>obtain rfl:l=[]:=nQ (by simpa using m.symm);rfl
   .cases h0;rfl
   .cases a
  exact⟨by simp[cZ,d,e],by simp[j]⟩
noncomputable def Rp (X:gj U) (esc:Z (Nat×Nat)) (a:Nat) (fs:Z (V JC)) (c:F4) (hint:fC) (h:U.C 0):V xW:=
 gV X (λ_ _=>Y) esc c hint {r:=[],b:=[],tick:=1,h:=h,m:=λ_=>F} λe s=>match e with
  |.exit _=>Y|_=>match s.bQ a with
   |.dT d 0=>match s.box d with
    |some (.cells _ rs)=>bif IQ rs fs then O ()else Y|_=>Y
   |_=>Y
include L in
theorem XO(G:P.follows .mixedOrders=W){f:JC}{fn:Pz}{c:F4}{esc:Z (Nat×Nat)}{hint:fC}{a:Nat}{l:JA}{fs:Z (V JC)}(h0:U.C 0)(H:bP P E T X)(J:P.funcs[f]?=O fn)(K:(fn.name== "runtime.NumGoroutine")=F)(N:fn.body=O c)
  (Q:eQ fn.ntmps c=W) (v:fn.results.toList=[.cell a l]) (x:kB fn.ntmps fn.results.toList=W) (R:P.cellsOf l=fs.length) (a0:k7 P l=O W) (q0:0<fs.length) (hF:Rp X esc a fs c hint h0=O ()):nm P E f [] (.ret [.v (.agg (fs.map pb))]):=by
 have z:bP P E.plain T X:=pj lN (λ_=>rfl) H;refine ye J K N (dS _) λw0 I0=>BO ?_;unfold Rp at hF;have b0:aX P E.plain T X ({r:=[],b:=[],tick:=1,h:=h0,m:=λ_=>F}:S U.C) (entry []):=⟨λt=>.none _,λd=>trivial,(λt st y o=>by cases o),(λd st y o=>by cases o),(λk _ c0=>by cases c0),rfl⟩
 refine mI L z (λ⟨k,d0⟩=>by cases d0) (mJ L G z) (λav j e0=>?_) c hint _ _ _ _ Q (.refl _) hF b0 λe s' j n r0 g=>?_
 .obtain ⟨p,s',g1,g2,g3,g4,rfl⟩:=e0;cases g3
 .have A:(match s'.bQ a with
   |.dT d 0=>match s'.box d with
    |some (.cells _ rs)=>bif IQ rs fs then O ()else Y|_=>Y
   |_=>Y)=O ()->∀e',(e'=eA.normal∨e'=eA.ret)->∃B,iz P E.plain w0 I0 fn.ntmps j B/\Xa P fn (.ret [.v (.agg (fs.map pb))]) e' B:=by
   intro g e' f0;split at g
   .rename_i d g0;split at g
    .rename_i u rs C;replace g:=aA g;obtain⟨i0,_⟩:=g;have D:=n.cu a;rw[g0]at D;have j0:=iY n D C;obtain⟨_,_,cs,l0,m0⟩:=n.cells C;obtain⟨n0,o0⟩:=IS m0 i0;have p0:a<fn.ntmps:=by rw[v]at x;simpa[kB]using x
     refine⟨{j with a:=qH,u:=km},λa w q=>?_,?_⟩
     .obtain ⟨I,be,q⟩:=q;exact⟨I,be,nu (λ_=>rfl) (λi=>.inl rfl) (λi hi=>by cases hi) q⟩
     .have s:gK P fn.ntmps {j with a:=qH,u:=km} Y [.cell a l] [.v (.agg (fs.map pb))]:=by
       refine⟨p0,?_,trivial⟩;unfold r2;show match j.r a with
        |.dT d gg sz i k=>match j.b d with
         |some (.cells cs)=>gg=j.g d/\iG P l (cs.drop (i*sz+k)) _|_=>False
        |_=>False
       rw[j0];simp only[l0,lY,cX,uF,ke];refine⟨M,M,?_⟩;rw[a0];refine⟨_,by rw[R,<-o0,lW];exact n0,rfl⟩
      rw[<-v]at s;rcases f0 with rfl|rfl
      .exact ⟨by simp[eM],⟨n.df,rfl,rfl⟩,Y,s⟩
      .exact ⟨by simp[eM],⟨n.df,rfl,rfl⟩,Y,s⟩
    .cases g
   .cases g
  cases e with
  |normal=>exact A g _ (.inl rfl)|exit id=>cases g
  |ret=>exact A g _ (.inr rfl)
end
def vU.Rq {U:cg} (B:vU) (N:Nat) (con:Z (Nat×Z (b7 U))) (Kp:Z (Nat×(Nat×Z (V Nat)))):gj U:={B.qN N con with Kp:=lk Kp}
section
variable{P:qK}{U:cg}{B:vU}{E:cm}{T:dm U.C}{N:Nat}{con:Z (Nat×Z (b7 U))}{Kp:Z (Nat×(Nat×Z (V Nat)))}
def Rr{e:JA}{t:Ty}(h:jj P E T (B.qN N con) e t):jj P E T (B.Rq N con Kp) e t:=⟨h.ok,h.cells,h.pos,h.few,h.Xr,h.agg,h.bytes,h.int,h.bool,h.str,h.aq,h.elem,h.ref,h.ptr,h.mp,h.field,h.Ky,h.rz,h.zero,h.zv1,h.kinds⟩
def Uj(h:bP P E T (B.qN N con))(b:∀f n fs,lk Kp f=O (n,fs)->nm P E f [] (.ret [.v (.agg (fs.map pb))])):bP P E T (B.Rq N con Kp):=⟨h.ro,h.ZB,λe t d=>Rr (h.ty e t d),λf c a=>⟨(h.con f c a).rs,(h.con f c a).dO,(h.con f c a).sy⟩,h.hC,h.map,h.JL,h.JM,h.j9,h.pK,b⟩
def XP(S:Gr P U T B)(b:∀i,E.ro i=Y){f:JC}(fn:Pz)(c:b7 U)(N:Nat)(esc:Z (Nat×Nat))(hint:fC)(d:tY P E T B con)(e:∀f n fs,lk Kp f=O (n,fs)->nm P E f [] (.ret [.v (.agg (fs.map pb))]))(a:HL U.C c.ps->U.C 0->V (h7 U c.dO (HL U.C (c.rs.map RK.ty))×U.C 0))(g:P.funcs[f]?=O fn)(j:om fn c.ps.length=W)(k:kG B c.rs c.dO=W)
  (hF:∀x h,vr (B.Rq N con Kp) c.ps c.rs c.dO esc fn.results.toList (fn.body.getD .skip) hint x h=a x h):jV P E T (B.qN 0 []) f ⟨c.ps,c.rs,c.dO,.st a⟩:=by
 obtain⟨r,h1,l,m,o,p,q⟩:=rK j;rw[l]at hF;exact hp k (QY S.L S.mo (Uj (rJ S.yG S.ak b d) e) g m h1 o p q hF)
def ZT(S:Gr P U T B)(c:∀i,E.ro i=Y)(h0:U.C 0){f:JC}(fn:Pz)(esc:Z (Nat×Nat))(hint:fC)(a:Nat)(b:JA)(fs:Z (V JC))(d:P.funcs[f]?=O fn)(e:om fn 0=W)(g:fn.results.toList=[.cell a b])(h:Nat.beq (P.cellsOf b) fs.length=W)(j:k7 P b=O W)(k:0<fs.length)
  (hF:Rp (B.qN 60 []) esc a fs (fn.body.getD .skip) hint h0=O ()):nm P E f [] (.ret [.v (.agg (fs.map pb))]):=by
 obtain⟨p,h1,l,m,q,n,o⟩:=rK e;rw[l]at hF;exact XO S.L S.mo h0 (rJ S.yG S.ak c .nil) d m h1 n g o (bV h) j k hF
end
end Go.X
namespace Go.Proofs.Mo
open Go Go.Ev
def po(w:zI):Prop:=Lib.TabIs Tryz.prog w "internal/strconv.uint64pow10" .u64 Lib.pow10Tab/\∀a,a= "strconv.ErrSyntax" ∨a= "strconv.ErrRange" ->∀g,Tryz.prog.globalNamed a=O g->∃b c,w.cell? ⟨g,0,Y⟩=O (.iface b c)
structure B8(E:cm):Prop where
 ro:∀i,E.ro i=Y
 laid:∀w,E.h5 w->po w
def B8.dn {E:cm} (h:B8 E) (A:Nat->V Ob) (I:aD):B8 (E.dn A I):=⟨λ_=>rfl,h.laid⟩
def B8.plain {E:cm} (h:B8 E):B8 E.plain:=⟨λ_=>rfl,h.laid⟩
end Go.Proofs.Mo
