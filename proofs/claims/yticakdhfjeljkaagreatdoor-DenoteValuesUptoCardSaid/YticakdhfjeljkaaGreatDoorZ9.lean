import Derived.Lib.ParseIntBCases
import Derived.Lib.ItoaLen
import Derived.DataReads
import Derived.DataElems
import Derived.ChangeArms
import Derived.Deep.Slices
import GoSem.ClaimChange
import Derived.Carry
import Derived.ChangeSame
import Derived.OpenShut
import Derived.RowKit
import Derived.ProofKit
import Derived.Test.YticakdhfjeljkaaGreatDoorZ8
set_option linter.all false
set_option maxRecDepth 20000
open Option renaming some->O,none->Y
open Bool renaming true->W,false->F
noncomputable section
namespace Go.X
open Go Go.Ev
def IP:bT->bT
 |.seq a _=>a|c=>c
def H7:bT->bT
 |.seq _ b=>b|c=>c
section
variable{P:ai}{E:cd}{U:cp}{T:dt U.C}{X:gy U}
def Tt{bx:Z (Nat×Nat×B U.C)}{g:Nat->Nat}{tick:Nat}{k:dd}{n:Int}{q:cH}(h:bA P E T bx g tick (.val (.int k) n) q):q=.val (.fl (.int k n)):=by
 cases h with
 |val t x q av a h=>rw[gm h rfl]at a;exact dk a
def yv{U:cp}(ps:Z Ty)(x:HL U.C ps)(h:U.C 0):S U.C:={r:=kF ps 0 x,b:=[],tick:=1,h:=h,m:=λ_=>F}
def MP{ps:Z Ty}{x:HL U.C ps}{a:Z AV}(h:gf P E T ps x a)(h0:U.C 0):a.length=ps.length/\aU P E.plain T X (yv ps x h0) (entry a):=by
 have b:=sc (bx:=[]) (g:=λ_=>0) (tick:=1) ps 0 x a (kJ pf h);refine⟨b.1,λt=>?_,λd=>trivial,λt st y c=>?_,(λd st y c=>by cases c),(λk _ i=>by cases i),rfl⟩
 .have:=b.2.2 t;rw[S.ib];rw[aq (eM _),qn]at this;simp only[yv];cases f:aF (kF ps 0 x) t with
  |none=>rw[f]at this;exact this|some e=>rw[f]at this;exact this
 .have:=b.2.1 t st y c;subst this;exact Nat.zero_lt_one
theorem Qm{args:Z AV}{vs:Array ag}{w0:af}{I0:aA}{n:Nat}(b:E.hS w0)(c:∀p,I0 p->p.block<w0.heap.size/\¬E.cf w0 p.block)(a:lN w0 I0 vs.toList args)(g:args.length<=n):
  ko P E.plain w0 I0 n (entry args) {tmps:=vs++Array.replicate (n-vs.size) undef,defers:=[]} w0:=by
 have i:vs.size=args.length:=by simpa using a.1
 refine⟨I0,λ_=>Y,?_⟩;exact⟨ee.refl (E:=E.plain) b c,dx,.nil,λt j=>qC a t,λd x e=>by simp[entry]at e,λd d' B f=>by grind,λd B f=>by grind,λd B h=>(by cases h),mX.none λ_=>rfl⟩
end
section
variable{α β σ τ:Type}
theorem qf(l:Z α)(i:Nat):ax l (i:Int)=l[i]?:=by simp[ax]
theorem dq{l:Z α}{i:Nat}(h:i<l.length):ax l (i:Int)=O l[i]:=by rw[qf];simp[h]
def lj{b:aa}(h:b=W):dv b=O ():=by simp[dv,h]
theorem b7{x:Int}(a:-9223372036854775808<=x)(b:x<=9223372036854775807):IntKind.i64.wrap x=x:=E9 a b
theorem sj{i:Nat}(h:i<4611686018427387904):IntKind.i64.wrap ((i:Int)+1)=((i+1:Nat):Int):=by grind [E9]
def Qn(a:V α):both a a=a:=by simp[both]
def OT{b n m:Nat}(a:n<=maxLen)(c:n*b<=m):cF b n m=W:=by simp[cF,a,c]
theorem Dh{A:Type}{step:A->σ->(σ->V β)->V β}{done:σ->V β}{r:β}(I:Z A->σ->Prop)
  (c:∀st,I [] st->done st=O r) (d:∀left st i x,I left st->left[i]?=O x->∃a,I (left.eraseIdx i) a/\∀k,step x st k=k a):
  ∀(n:Nat)(left:Z A)(st:σ),left.length=n->I left st->lf step done n left st=O r
 |0,left,st,h,b=>by obtain rfl:=oT h;exact c st b|n+1,left,st,h,b=>by show oE left.length (λi=>(left[i]?).bind λx=>step x st λa=>lf step done n (left.eraseIdx i) a)=O r;refine J9 M λi hi=>?_;have e:left[i]?=O left[i]:=cX hi;obtain⟨a,f,g⟩:=d left st i _ b e;rw[e,aE,g];exact Dh I c d n _ a (by grind) f
end
section
variable{β γ:Type}
def MQ(x:bP):dz x x=W:=by simp[dz]
theorem wW{x y:bP}(h:x≠y):dz x y=F:=by grind
theorem H8{l:Z (bP×γ)}{k:bP}:bp dz l k=Y↔∀e∈l,e.1≠k:=by
 induction l with
 |nil=>simp[bp]|cons e l b=>
  obtain⟨a,v⟩:=e;by_cases h:k=a
  .subst h;simp[bp,MQ]
  .simp only[bp,wW h,aX,b,fb,forall_eq_or_imp]
   grind
def Di{l:Z (bP×γ)}{k:bP}{v:γ}(h:bp dz l k=Y):fV dz l k v=l++[(k,v)]:=by
 induction l with
 |nil=>rfl|cons e l b=>
  obtain⟨a,w⟩:=e;by_cases e:k=a
  .subst e;simp[bp,MQ]at h
  .simp only[bp,wW e,aX]at h;simp only[fV,wW e,aX,b h,EU]
end
end Go.X
namespace Go.X
open Go
def iW(c:bc):Prop:=48<=c.toNat/\c.toNat<=57
instance(c:UInt8):Decidable (iW c):=by unfold iW;infer_instance
def tt(c:bc):Nat:=c.toNat-48
def jD(a:Nat)(l:Z bc):Nat:=l.foldl (λa c=>a*10+tt c) a
theorem mK(a:Nat):jD a []=a:=List.foldl_nil
theorem lX(a:Nat)(c:bc)(l:Z bc):jD a (c::l)=jD (a*10+tt c) l:=vA
theorem yw(l:Z bc):∀(a:Nat)(c:bc),jD a (l++[c])=jD a l*10+tt c:=by
 induction l with
 |nil=>grind [lX,mK]|cons x l b=>grind [lX]
theorem Wf(l:Z bc):∀a:Nat,a<=jD a l:=by
 induction l with
 |nil=>intro a;rw[mK];grind|cons x l b=>grind [lX,tt]
def OU{x:bc}(h:iW x):tt x<=9:=by unfold tt;have:=h.2;omega
theorem Tu(Mloc:Nat)(g:Mloc<18446744073709551616)(l:Z bc):∀a:Nat,(∀c∈l,iW c)->jD a l<=Mloc->Lib.parseUintM Mloc a l=.ok (jD a l):=by
 induction l with
 |nil=>intro a _ _;rw[mK];rfl|cons x l i=>
  intro a h b;have d:iW x:=h x aH;rw[lX]at b⊢;have j:=Wf l (a*10+tt x);have e:tt x=x.toNat-48:=rfl;have f:48<=x.toNat/\x.toNat<=57:=d;rw[Lib.parseUintM,aq f,ao M,ao M]
  grind
theorem yx{d:Nat}(h:d<10):iW (UInt8.ofNat (48+d))/\tt (UInt8.ofNat (48+d))=d:=by grind [UInt8.ofNat,UInt8.toNat_ofNat',iW,tt]
theorem FU{c:bc}(h:iW c):UInt8.ofNat (48+tt c)=c:=by grind [UInt8.toNat_inj,iW,UInt8.toNat_ofNat',tt]
theorem kL{u:Nat}(h:u<10):Lib.decDigits u=[UInt8.ofNat (48+u)]:=by rw[Lib.decDigits,dif_pos h]
theorem wX{u:Nat}(h:¬u<10):Lib.decDigits u=Lib.decDigits (u/10)++[UInt8.ofNat (48+u%10)]:=by rw[Lib.decDigits,dif_neg h]
theorem AL(u:Nat):(∀c∈Lib.decDigits u,iW c)/\jD 0 (Lib.decDigits u)=u:=by
 induction u using Nat.strongRecOn with
 |_ u a=>
  by_cases h:u<10
  grind [yx,kL,UInt8.ofNat,List.mem_singleton,lX,mK]
  .obtain ⟨b,e⟩:=yx (d:=u%10) M
   grind [wX,UInt8.ofNat,List.mem_singleton,yw]
theorem yy(u:Nat):Lib.decDigits u≠[]:=by
 by_cases h:u<10
 .rw[kL h];grind
 .rw[wX h];simp_all
theorem Km{α:Type}{l k:Z α}(h:l≠[]):(l++k).head?=l.head?:=by
 cases l with
 |nil=>grind|cons x l=>rfl
theorem Kn(u:Nat)(h:(Lib.decDigits u).head?=O 48):u=0:=by
 induction u using Nat.strongRecOn with
 |_ u b=>
  by_cases a:u<10
  .rw[kL a,NI]at h;have:=(yx a).2;rw[cJ h]at this;exact this.symm
  .rw[wX a,Km (yy _)]at h
   grind
theorem Ko:∀(n:Nat)(l:Z bc),l.length=n->l≠[]->(∀c∈l,iW c)->(l.head?=O 48->l.length=1)->Lib.decDigits (jD 0 l)=l:=by
 intro n;induction n with
 |zero=>grind|succ n i=>
  intro l h d f h0;obtain⟨k,c,rfl⟩:∃k c,l=k++[c]:=⟨l.dropLast,l.getLast d,(List.dropLast_concat_getLast d).symm⟩
  have a:iW c:=f c aH;have j:=OU a;rw[yw];by_cases g:k=[]
  .subst g;rw[mK,lK,dN,pw,kL M,FU a]
  .have m:k.head?≠O 48:=λe=>by grind
   have b:=i k (by grind) g (λc a=>f c (by grind)) λe=>(m e).elim;have o:jD 0 k≠0:=λe=>by
    rw[e,kL M]at b
    grind
   generalize jD 0 k=v at b o;generalize p:tt c=e at j;rw[wX M,(M:(v*10+e)/10=v),(M:(v*10+e)%10=e),b,<-p,FU a]
theorem OV(u:Nat):∀k:Nat,u<10^k->1<=k->(Lib.decDigits u).length<=k:=by
 induction u using Nat.strongRecOn with
 |_ u a=>
  intro k h d;by_cases b:u<10
  .rw[kL b];grind
  .obtain ⟨k,rfl⟩:∃j,k=j+1:=⟨k-1,M⟩
   have c:1<=k:=by grind
   rw[Nat.pow_succ]at h;have:=a (u/10) M k M c
   grind [wX,jf,List.length_singleton]
def qT(a:aa)(d:Z bc):aa:=!d.isEmpty&&(decide (d.length<=19)&&((!(d.head?==O 48)||(!a&&d.length==1))&&(d.all (λx=>decide (iW x))&&decide (jD 0 d<=(bif a then 9223372036854775808 else 9223372036854775807)))))
theorem j9{a:aa}{d:Z bc}:qT a d=W↔d≠[]/\d.length<=19/\(d.head?=O 48->a=F/\d.length=1)/\(∀x∈d,iW x)/\jD 0 d<=(bif a then 9223372036854775808 else 9223372036854775807):=by
 unfold qT
 grind
def nw(s:Z bc):V Int:=
 match s with
 |[]=>Y|c::r=>bif c==45 then(bif qT W r then O (-(jD 0 r:Int))else Y)else bif qT F (c::r)then O (jD 0 (c::r):Int)else Y
theorem wY(u:Nat):Lib.itoa (u:Int)=Lib.decDigits u:=by unfold Lib.itoa;grind
theorem Dj(u:Nat)(h:1<=u):Lib.itoa (-(u:Int))=45::Lib.decDigits u:=by unfold Lib.itoa;grind
theorem Qo:¬iW 45:=b9
theorem Dk{s:Z bc}{v:Int}(h:nw s=O v):Lib.itoa v=s/\-9223372036854775808<=v/\v<=9223372036854775807/\s.length<=20:=by
 unfold nw at h;split at h
 grind
 .rename_i c r;cases a:c==45 with
  |true=>
   rw[a,aW]at h;have a:=eq_of_beq a;subst a;cases b:qT W r with
   |false=>grind|true=>
    rw[b,aW]at h;have h:=cJ h;obtain⟨d,j,i,f,g⟩:=j9.1 b;simp only[aW]at g;have e:=Ko _ r rfl d f λe=>(by grind)
    have k:1<=jD 0 r:=by
     rcases Nat.eq_zero_or_pos (jD 0 r)with e0|e0
     .rw[e0,kL M]at e
      grind
     grind
    generalize jD 0 r=u at*;subst h;rw[Dj _ k,e]
    grind
  |false=>
   rw[a,aX]at h;cases b:qT F (c::r)with
   |false=>grind|true=>
    rw[b,aW]at h;have h:=cJ h;obtain⟨d,j,i,f,g⟩:=j9.1 b;simp only[aX]at g;have e:=Ko _ (c::r) rfl d f λe=>(i e).2;generalize jD 0 (c::r)=u at*;subst h;rw[wY,e]
    grind
theorem MR{v:Int}(h0:-9223372036854775808<=v)(d:v<=9223372036854775807):nw (Lib.itoa v)=O v:=by
 by_cases hv:v<0
 .obtain ⟨u,rfl⟩:∃u:Nat,v=-(u:Int):=⟨v.natAbs,M⟩
  rw[Dj u M];obtain⟨d1,a⟩:=AL u;have hm:qT W (Lib.decDigits u)=W:=j9.2 ⟨yy u,OV u 19 M M,λe=>by have:=Kn u e;omega,d1,by grind⟩;unfold nw
  grind
 .obtain ⟨u,rfl⟩:∃u:Nat,v=(u:Int):=⟨v.toNat,M⟩
  rw[wY u];obtain⟨d1,a⟩:=AL u;have hm:qT F (Lib.decDigits u)=W:=j9.2 ⟨yy u,OV u 19 M M,λe=>by
   have:=Kn u e;subst this;rw[kL M]
   grind,d1,by grind⟩
  have f:=yy u;generalize Lib.decDigits u=l at*;cases l with
  |nil=>grind|cons c r=>
   have b:(c==45)=F:=by grind [beq_eq_false_iff_ne,Qo]
   simp only[nw,b,aX,hm,aW,a]
theorem MS{v:Int}(h0:-9223372036854775808<=v)(f:v<=9223372036854775807):Lib.parseIntB 64 (Lib.itoa v)=.ok v:=by
 have d:∀u:Nat,u<=9223372036854775808->Lib.parseUintB 64 (Lib.decDigits u)=.ok u:=λu g=>by obtain⟨a,b⟩:=AL u;unfold Lib.parseUintB;rw[ao (yy u),Tu _ b9 _ _ a (by grind),b]
 by_cases hv:v<0
 .obtain ⟨u,rfl⟩:∃u:Nat,v=-(u:Int):=⟨v.natAbs,M⟩
  rw[Dj u M];have e:(45:bc).toNat=45:=rfl;unfold Lib.parseIntB
  grind
 .obtain ⟨u,rfl⟩:∃u:Nat,v=(u:Int):=⟨v.toNat,M⟩
  rw[wY u];obtain⟨a,b⟩:=AL u;have h:=yy u;have i:=d u M;generalize Lib.decDigits u=l at*;cases l with
  |nil=>grind|cons c r=>
   have j:48<=c.toNat/\c.toNat<=57:=a c aH;have k:¬(c.toNat=43∨c.toNat=45):=M;have m:¬c.toNat=45:=M;unfold Lib.parseIntB
   grind
def cG(n:Int):Prop:=-9223372036854775808<=n/\n<=9223372036854775807
instance(n:Int):Decidable (cG n):=by unfold cG;infer_instance
theorem abA(x:Int):cG (IntKind.i64.wrap x):=by grind [cG,IntKind.wrap,IntKind.bits,IntKind.signed]
theorem ZP(x:Int):∃k:Int,IntKind.i64.wrap x=x+k*18446744073709551616:=by
 have h:(x%18446744073709551616)=x-18446744073709551616*(x/18446744073709551616):=M;by_cases c:x%18446744073709551616<9223372036854775808
 .refine ⟨-(x/18446744073709551616),?_⟩
  grind [IntKind.wrap,IntKind.bits,IntKind.signed]
 .refine ⟨-(x/18446744073709551616)-1,?_⟩
  grind [IntKind.wrap,IntKind.bits,IntKind.signed]
theorem MT{x r k:Int}(a:cG x)(b:r.natAbs<x.natAbs)(h:r=k*18446744073709551616):k=0:=by unfold cG at a;omega
theorem Tv{x y:Int}(f:cG x)(b:cG y)(h0:x≠0):
  (IntKind.i64.wrap ((IntKind.i64.wrap (x*y)).tdiv x)=y/\¬(x=-1/\y=-9223372036854775808))↔cG (x*y):=by
 constructor
 .rintro ⟨d,g⟩;obtain⟨k,e⟩:=ZP (x*y);have c:=abA (x*y);generalize IntKind.i64.wrap (x*y)=p at d e c;have i:=Int.mul_tdiv_add_tmod p x;have j:(p.tmod x).natAbs<x.natAbs:=by rw[Int.natAbs_tmod];exact ui _ M
  have l:(p.tdiv x).natAbs<=p.natAbs:=by rw[Int.natAbs_tdiv];exact Nat.div_le_self _ _
  have m:cG (p.tdiv x)∨p.tdiv x=9223372036854775808:=by unfold cG at c⊢;omega
  grind [cG,b7,MT]
 .intro h;have a:=h;unfold cG at a;rw[b7 a.1 a.2,Int.mul_tdiv_cancel_left _ h0,b7 b.1 b.2]
  grind
theorem ni{x:Int}(h0:0<=x)(a:x<18446744073709551616):IntKind.u64.wrap x=x:=by grind [IntKind.wrap,IntKind.bits,IntKind.signed]
theorem OW{x:Int}(a:cG x)(b:x≠-9223372036854775808):IntKind.u64.wrap (bif decide (x<IntKind.i64.wrap (0-x))then IntKind.i64.wrap (0-x)else x)=x.natAbs:=by
 unfold cG at a;rw[b7 M M];by_cases h:x<0-x
 .simp only[h,od,aW]
  grind [ni]
 .simp only[h,lM,aX]
  grind [ni]
theorem Wg{x y:Int}(h:cG x)(i:cG y)(h0:x≠0)(c:y≠0){Mloc:Int}(j:Mloc=if(x<0)↔(y<0)then 9223372036854775807 else 9223372036854775808):
  ((x.natAbs:Int)<=Mloc.tdiv (y.natAbs:Int))↔cG (x*y):=by
 have d:0<y.natAbs:=M;have e:∃m:Nat,Mloc=(m:Int)/\m=if(x<0)↔(y<0)then 9223372036854775807 else 9223372036854775808:=⟨Mloc.toNat,by grind,by grind⟩
 obtain⟨m,rfl,k⟩:=e;have f:((m:Int).tdiv (y.natAbs:Int))=((m/y.natAbs:Nat):Int):=by grind
 rw[f];have g:((x.natAbs:Int)<=((m/y.natAbs:Nat):Int))↔x.natAbs*y.natAbs<=m:=by rw[Int.ofNat_le];exact Nat.le_div_iff_mul_le d
 rw[g,<-Int.natAbs_mul];unfold cG;have l:(x*y<0)↔¬((x<0)↔(y<0)):=by
  rcases Int.lt_or_gt_of_ne h0 with a|a<;>rcases Int.lt_or_gt_of_ne c with b|b
  .have:=Int.mul_pos_of_neg_of_neg a b
   grind
  grind [Int.mul_neg_of_neg_of_pos]
  grind [Int.mul_neg_of_pos_of_neg]
  grind
 grind
end Go.X
namespace Go.Ev
open Go
def ll(B:Nat)(f:bH)(caps:Z AV):Nat->AV
 |0=>.fl (.pointer (O ⟨B,0,Y⟩))|k+1=>.ref [.fn f (caps++[ll B f caps k])]
section
variable{P:ai}{E:cd}{w0:af}{I0:aA}{n:Nat}{s:St}{a:Act}{w w':af}{I:aA}{be:Nat->V Nat}
theorem aJ.aes (h:aJ P E w0 I0 n s a w I be) (o:Obj):aJ P E w0 I0 n s a (w.alloc o) (I.plus λp=>p.block=w.heap.size) be:=by
 obtain⟨b,v,⟨y,z,A,C,D⟩,G,f⟩:=h.fresh (w':=w.alloc o) (o:=o) rfl rfl rfl rfl;have d:∀d',s.g d'<s.g d'∨(s.g d'=s.g d'/\fy P (w.alloc o) (w.alloc o) be be s.b s.b d'):=λd'=>.inr ⟨rfl,λh=>⟨h,rfl⟩,λ_ _ _ h=>h⟩;refine⟨b.since.step (w':=w.alloc o) rfl rfl rfl (bq _) (λ_=>False) (λ_ _ _=>rfl) (λ_ g=>g.elim) (gZ.refl _) (λ_ h=>.inl h) rfl ?_,b.size,b.defers.mono (.plus _ _ _),
  λt j=>(b.ct t j).eP (.plus _ _ _) d,λd' x k=>(b.bD d' x k).eP (.plus _ _ _) d rfl (λ_ _=>rfl),b.inj,λd' B l m=>?_,b.ru,
  b.gi (.plus _ _ _) rfl (λ_=>False) (λ_ _ _ _ h=>h) (λ_ _ _=>rfl) (bq _) (λ_ h=>h.elim) (λp c=>c.imp id λe i hi q=>f _ rfl i hi (by rw[q,e])) (λ_ h=>.inl h)⟩
 .rintro p (c|c)
  grind
  grind
 .obtain ⟨q1,r,H,u⟩:=b.bR d' B l m;refine⟨q1,r,λp c e=>?_,u⟩;rcases c with c|c
  grind
  grind
theorem Kp{B:Nat}{f:bH}{caps:Z AV}{vs:Array ag}{e:an}(g:w.heap[B]?=O (.cells #[.func (.func f) #[] vs] e (0,0)))(b:∀p,p.block=B->I p)(d:vs.size=caps.length+1)
  (h:∀(j:Nat)(c:AV),caps[j]?=O c->cy w I (vs.getD j undef) c) (i:vs.getD caps.length undef=.pointer (O ⟨B,0,Y⟩)):∀k,cy w I (.pointer (O ⟨B,0,Y⟩)) (ll B f caps k)
 |0=>.fl _ rfl|k+1=>by
  have l:=Kp g b d h i k;refine .ref ⟨B,0,Y⟩ _ (λ_=>.func (.func f) #[] vs) (λj c a=>?_) (λj c a=>b _ ?_) (λj c a=>?_)
  grind [World.cell?,Addr.add]
  grind [Addr.add]
  .match j,a with
   |0,a=>
    simp at a;subst a;refine .fn f vs _ (by simp[d]) λj c m=>?_
    grind
   |j+1,a=>simp at a
def FV(w:af)(o:Obj):(w.alloc o).heap[w.heap.size]?=O o:=by show(w.heap.push o)[w.heap.size]?=_;simp
theorem H9(w:af)(cs a:Array ag)(e:an):(w.alloc (.cells cs e (0,0))).setRow w.heap.size a=w.alloc (.cells a e (0,0)):=by
 have b:∀f:Obj->Obj,f (.cells cs e (0,0))=.cells a e (0,0)->(w.heap.push (.cells cs e (0,0))).modify w.heap.size f=w.heap.push (.cells a e (0,0)):=λf c=>by grind
 grind [World.setRow,World.alloc]
theorem Kq{Q:e7->St->Prop}{Zloc:AV->St->Prop}{m d f i1 i2:Nat}{e:an}{o1 o2 o3:aC}{ts:Z Nat}{g:Z AV}{rest:bT}{C:TypeInfo}{z:ag}
  (hz:P.info? e=O C) (K:C.zero=O z) (L:z.cells=#[z]) (q:P.cellsOf e=1)
  (S:o1.op=.alloc e) (T:o1.dst=O m) (U:o1.guard=Y) (a0:o2.op=.makeFunc (.func f) #[] (ts.map Operand.tmp++[Operand.tmp m]).toArray) (b0:o2.dst=O d) (c0:o2.guard=Y)
  (d0:o3.op=.store e (.tmp m) (.tmp d)) (u0:o3.dst=Y) (e0:o3.guard=Y) (x0:m<n) (f0:d<n) (y0:d≠m) (g0:g.length=ts.length)
  (D:∀(j t:Nat),ts[j]?=O t->t<n/\t≠m/\∃av,g[j]?=O av/\s.r t=.val av)
  (N:Nat) (h:∀B:Nat,nC P E w0 I0 n rest Q Zloc ((s.put (O m) (.val (ll B f g N))).put (O d) .none)):nC P E w0 I0 n (.seq (.region i1 #[o1] F) (.seq (.region i2 #[o2,o3] F) rest)) Q Zloc s:=by
 rintro a w ⟨I,be,i⟩;have hsz:=i.size;refine kT (oh ?_);have h0:(execOp a.eval o1).run P w=.ok (.value (.pointer (O ⟨w.heap.size,0,Y⟩))) (w.alloc (.cells #[z] e)):=by simp[execOp,S,Instr.alloc,zeroValue,typeInfo,hz,K,newVar,newRow,L]
 refine X.jC (o:=o1) rfl U h0 ?_;rw[T];show(Code.seq _ _).wp P _ _ _;refine kT (oh ?_);have i0:m<a.tmps.size:=by grind
 let b:ag:=.pointer (O ⟨w.heap.size,0,Y⟩);let vs:Array ag:=(ts.map λt=>a.tmps.getD t undef).toArray.push b;have j0:(execOp (a.put (O m) b).eval o2).run P (w.alloc (.cells #[z] e))=.ok (.value (.func (.func f) #[] vs)) (w.alloc (.cells #[z] e)):=by
  have:(ts.map Operand.tmp++[Operand.tmp m]).toArray.map (a.put (O m) b).eval=vs:=by
   apply Array.ext';simp only[Array.toList_map,IW,AW,gb,zb,vs,Array.toList_push];congr 1
   .refine EY λt k0=>?_;obtain⟨j,u,rfl⟩:=hB k0;have l0:=(D j _ (cX u)).2.1;simp[Act.eval,Act.put,Ro (eN l0)]
   .simp[Act.eval,Act.put,i0]
  simp only[execOp,a0];rw[this];simp[Instr.makeFunc]
 refine X.jC (o:=o2) rfl c0 j0 ?_;rw[b0];have A0:d<(a.put (O m) b).tmps.size:=by simp[Act.put];grind
 have x:((a.put (O m) b).put (O d) (.func (.func f) #[] vs)).eval (.tmp m)=b:=by
  have:((a.tmps.setIfInBounds m b).setIfInBounds d (Value.func (Fn.func f) #[] vs))[m]?=O b:=by grind
  simp[Act.eval,Act.put,this]
 have hv:((a.put (O m) b).put (O d) (.func (.func f) #[] vs)).eval (.tmp d)=.func (.func f) #[] vs:=by simp[Act.eval,Act.put,hsz,f0]
 have G:=jJ (P:=P) (w:=w.alloc (.cells #[z] e)) (B:=w.heap.size) (t:=e) (k:=0) (v:=.func (.func f) #[] vs) (cur:=#[z]) (FV _ _) (by rw[q];rfl) (by grind) (by simp[Value.cells,Value.oneCell']) (by simp[Value.cells]);have m0:(w.alloc (.cells #[z] e)).setRow w.heap.size (bh [z] 0 [Value.func (.func f) #[] vs]).toArray=w.alloc (.cells #[.func (.func f) #[] vs] e):=H9 _ _ _ _;have n0:(execOp ((a.put (O m) b).put (O d) (.func (.func f) #[] vs)).eval o3).run P (w.alloc (.cells #[z] e))=.ok .skip (w.alloc (.cells #[.func (.func f) #[] vs] e)):=by have o0:(Value.func (.func f) #[] vs).cells.toList=[.func (.func f) #[] vs]:=rfl;rw[o0,m0]at G;simp only[execOp,d0,x,hv];simp[Instr.storeAt,Instr.sureAddr,b,G]
 have p0:∀(R:Exit->Act->af->Prop)(l:Act)(y A:af),(execOp l.eval o3).run P y=.ok .skip A->R .normal (l.put Y undef) A->wpOps P #[o2,o3] R [1] l y:=λR l y A H B0=>by
  simp only[wpOps,Region.wanted,EX,List.getElem?_cons_succ,ic,e0,cm]
  grind [kp]
 refine p0 _ _ _ _ n0 ?_;refine h w.heap.size _ _ ⟨I.plus λp=>p.block=w.heap.size,be,?_⟩;have q0:=i.aes (.cells #[.func (.func f) #[] vs] e);have r0:∀v r,bU P w I be s.b s.g v r->∀av,r=.val av->cy (w.alloc (.cells #[.func (.func f) #[] vs] e)) (I.plus λp=>p.block=w.heap.size) v av:=λv r H av e=>by subst e;have s0:dK w (w.alloc (.cells #[.func (.func f) #[] vs] e)) I I:=(i.fresh (w':=w.alloc (.cells #[.func (.func f) #[] vs] e)) rfl rfl rfl rfl).2.2.2.1;exact(cy.mono s0 H).mono (.plus _ _ _)
 refine(q0.put (O m) (v:=b) (r:=.val (ll w.heap.size f g N)) ?_).put (O d) (r:=.none) trivial;refine Kp (vs:=vs) (e:=e) (FV _ _) (λp x=>Or.inr x) (by grind) (λj c q=>?_) (by simp[vs,g0,b]) N;have u:j<ts.length:=by grind
 obtain⟨q1,C0,av,J,t0⟩:=D j ts[j] (cX u);rw[q]at J;cases J;have:=r0 _ _ (i.ct ts[j] q1) c t0;have D0:vs.getD j undef=a.tmps.getD ts[j] undef:=by
  simp only[vs,my]
  grind
 grind
end
end Go.Ev
namespace Go.X
open Go Go.Ev
variable{α:Type}{i a:Int}{p:Prop}{b:aa}{N n:Nat}
def T{α:Type}(o:V α)(P:α->Prop):Prop:=∃r,o=O r/\P r
section
variable{α β σ τ:Type}
theorem ad{r:α}{P:α->Prop}(h:P r):T (O r) P:=⟨r,rfl,h⟩
theorem aB{o:V α}{Q:α->Prop}{k:α->V β}{P:β->Prop}(h:T o Q)(a:∀r,Q r->T (k r) P):T (o.bind k) P:=by
 obtain⟨r,b,c⟩:=h
 grind
theorem ay{o:V α}{Q:α->Prop}{k:α->V β}{P:β->Prop}(h:T o Q)(a:∀r,o=Option.some r->Q r->T (k r) P):T (o.bind k) P:=by
 obtain⟨r,b,c⟩:=h
 grind
def hM{v:α}{k:α->V β}{P:β->Prop}(h:T (k v) P):T ((Option.some v).bind k) P:=h
theorem ek{o:V α}{P Q:α->Prop}(h:T o P)(a:∀r,P r->Q r):T o Q:=by obtain⟨r,b,c⟩:=h;exact⟨r,b,a r c⟩
theorem aw{x y:V α}{P:α->Prop}(a:b=W->T x P)(c:b=F->T y P):T (cond b x y) P:=by grind
theorem bO{k:ab->V β}{P:β->Prop}(h:b=W)(a:T (k ()) P):T ((dv b).bind k) P:=by rw[lj h];exact a
theorem aL{l:Z α}{k:α->V β}{P:β->Prop}(h0:0<=i)(a:i<(l.length:Int))(b:∀x,x∈l->l[i.toNat]?=Option.some x->T (k x) P):T ((ax l i).bind k) P:=by
 obtain⟨n,rfl⟩:=oR h0
 grind [ax,dq,fR]
theorem acy{l:Z α}{i:Nat}{k:α->V β}{P:β->Prop}(a:i<l.length)(b:∀x,x∈l->l[i]?=Option.some x->T (k x) P):T ((l[i]?).bind k) P:=by grind
def pI{ε β γ:Type}{r:Except ε β}{f:ε->V γ}{g:β->V γ}{P:γ->Prop}(a:∀e,r=.error e->T (f e) P)(b:∀y,r=.ok y->T (g y) P):T (eG r f g) P:=by
 cases r with
 |error e=>exact a e rfl|ok y=>exact b y rfl
def fj{h:σ}{k:σ->V α}{P:α->Prop}(a:T (k h) P):T (cw h k) P:=a
def aS{J:σ->V α}{a:(σ->V α)->V α}{P:α->Prop}(R:σ->Prop)(b:∀J:σ->V α,(∀x,R x->T (J x) P)->T (a J) P)(c:∀x,R x->T (J x) P):T (aG J a) P:=b J c
def bl{f:(σ->V β)->σ->V β}{s:σ}{P:β->Prop}(I:σ->Prop)(μ:σ->Nat)(h0:I s)(c:μ s<N)
  (step:∀(rec:σ->V β) s,I s->(∀s',I s'->μ s'<μ s->T (rec s') P)->T (f rec s) P):T (aQ f N s) P:=by
 induction N generalizing s with
 |zero=>omega|succ N a=>exact step _ s h0 λs' b d=>a b M
def dJ{l:Z α}(h0:0<=i)(a:i<(l.length:Int)):∃x,ax l i=Option.some x/\x∈l/\l[i.toNat]?=Option.some x:=by obtain⟨n,rfl⟩:=oR h0;have h:n<l.length:=M;exact⟨_,dq h,fR h,by simp[h]⟩
theorem su{l:Z α}(h:l.length*n<=140737488355328)(a:l.length<=1152921504606846976):
  T (bif l.isEmpty then both (Option.some []) ((dv (cF n (0+l.length) 140737488355328)).bind λ_=>Option.some (([]:Z α)++l))else(dv (cF n (0+l.length) 140737488355328)).bind λ_=>Option.some (([]:Z α)++l)) (λr=>r=l):=by
 have b:dv (cF n (0+l.length) 140737488355328)=Option.some ():=lj (OT (by rw[dN];exact ef a b9) (by grind));rw[b];cases l with
 |nil=>exact ⟨[],Qn _,rfl⟩|cons x l=>exact ⟨x::l,rfl,rfl⟩
end
theorem cq{b m:Nat}(h:n*b<=m)(a:n<=1152921504606846976):cF b n m=W:=OT (ef a b9) h
section
variable{β:Type}{x y:V β}{P:β->Prop}
theorem a6{b:Int}(c:a<b->T x P)(d:b<=a->T y P):T (cond (decide (a<b)) x y) P:=aw (λh=>c (e4 h)) λh=>d (kC.mp (of_decide_eq_false h))
theorem eZ{b:Int}(c:a<=b->T x P)(d:b<a->T y P):T (cond (decide (a<=b)) x y) P:=aw (λh=>c (e4 h)) λh=>d (EQ.mp (of_decide_eq_false h))
theorem bt[BEq α][LawfulBEq α]{a b:α}(c:a=b->T x P)(d:¬a=b->T y P):T (cond (a==b) x y) P:=aw (λh=>c (eq_of_beq h)) λh=>d (qo.mp h)
theorem bE[BEq α][LawfulBEq α]{a b:α}(c:¬a=b->T x P)(d:a=b->T y P):T (cond (!(a==b)) x y) P:=aw (λh=>c (qo.mp (by grind))) λh=>d (by grind)
theorem cj(a:b=F->T x P)(c:b=W->T y P):T (cond (!b) x y) P:=aw (λh=>a (by grind)) λh=>c (by grind)
theorem s5{l:Z α}{G:Prop}(h0:0<=i)(d:i<(l.length:Int))(e:∀x,ax l i=Option.some x->x∈l->l[i.toNat]?=Option.some x->G):G:=by
 obtain⟨x,a,b,c⟩:=dJ h0 d
 grind
end
def ajg(h:p:=by simp (disch:=omega)only[b7]at*;omega):p:=h
def ajh(h:p:=by simp (disch:=omega) [b7,cq]at*;omega):p:=h
def aji(h:p:=by simp (disch:=omega) [b7,cq]at*):p:=h
def dU{r:α}{P:α->Prop}(h:P r:=by trivial):T (O r) P:=⟨r,rfl,h⟩
def cI{σ:Type}{J:σ->V α}{a:(σ->V α)->V α}{P:α->Prop}(b:∀J:σ->V α,(∀x,T (J x) P)->T (a J) P)(c:∀x,T (J x) P):T (aG J a) P:=b J c
def cN{τ β:Type}{f:(Int×τ->V β)->Int×τ->V β}{t:τ}{P:β->Prop}(L:Int)(step:∀(rec:Int×τ->V β) i t,0<=i->i<=L->(∀x:Int×τ,0<=x.1/\x.1<=L->(L-x.1).toNat<(L-i).toNat->T (rec x) P)->T (f rec (i,t)) P)(h0:0<=i/\i<=L:=by omega)(b:(L-i).toNat<N:=by omega):T (aQ f N (i,t)) P:=bl (λs=>0<=s.1/\s.1<=L) (λs=>(L-s.1).toNat) h0 b λrec s a c=>step rec s.1 s.2 a.1 a.2 c
def acz(h:p:=by dsimp only;simp (disch:=omega)only[b7]at*;omega):p:=h
end Go.X
namespace Go.X
open Go
section
variable{α:Type}(L:Z α)(K:α->Z Int)(may:α->aa)
def hO(f:Nat->V (Nat×Nat)):Z Int->Nat->Nat->V (Nat×Nat)
 |[],next,a=>O (next,a+1)|k::b,next,a=>if k=(next:Int)then(f next).bind λr=>hO f b r.1 (max a r.2)else Y
def qX:Nat->Nat->V (Nat×Nat)
 |0,_=>Y|d+1,i=>(L[i]?).bind λn=>if may n=W then hO (qX d) (K n) (i+1) 0 else Y
theorem KM{f:Nat->V (Nat×Nat)}(g:∀i e c,f i=O (e,c)->i<e/\1<=c/\c<=e-i):∀(d:Z Int)(next nG e c:Nat),hO f d next nG=O (e,c)->next<=e/\nG<c/\c<=max nG (e-next)+1
 |[],next,nG,e,c,h=>by grind [hO,aN,cz]|k::d,next,nG,e,c,h=>by
  simp only[hO]at h;split at h
  .obtain ⟨r,j,l⟩:=mT.1 h;have a:=g next r.1 r.2 j;have b:=KM g d r.1 (max nG r.2) e c l;omega
  grind
theorem KN{f:Nat->V (Nat×Nat)}{n:Nat}(c:∀i e a,f i=O (e,a)->e<=n):∀(b:Z Int)(next nG e a:Nat),next<=n->hO f b next nG=O (e,a)->e<=n
 |[],next,nG,e,a,d,h=>by grind [hO,aN,cz]|k::b,next,nG,e,a,d,h=>by
  simp only[hO]at h;split at h
  .obtain ⟨r,g,j⟩:=mT.1 h;exact KN c b r.1 _ e a (c next r.1 r.2 g) j
  grind
theorem AQ:∀(d i e a:Nat),qX L K may d i=O (e,a)->i<e/\1<=a/\a<=e-i
 |0,i,e,a,h=>by cases h
 |d+1,i,e,a,h=>by
  simp only[qX]at h;obtain⟨n,c,b⟩:=mT.1 h;split at b
  .have:=KM (λi e a h=>AQ d i e a h) _ _ _ _ _ b;omega
  grind
theorem Pb:∀(d i e a:Nat),qX L K may d i=O (e,a)->e<=L.length
 |0,i,e,a,h=>by cases h
 |d+1,i,e,a,h=>by
  simp only[qX]at h;obtain⟨n,c,b⟩:=mT.1 h;have hi:=(cr.1 c).1;split at b
  .exact KN (λi e a h=>Pb d i e a h) _ _ _ _ _ M b
  grind
def sw{f g:Nat->V (Nat×Nat)}{m:Nat}(b:∀i e d,f i=O (e,d)->i<e)(h:∀i,m<=i->f i=g i):∀(a:Z Int)(next nG:Nat),m<=next->hO f a next nG=hO g a next nG
 |[],next,nG,c=>rfl|k::a,next,nG,c=>by
  simp only[hO];split
  .rw[<-h next c];cases j:f next with
   |none=>rfl|some r=>have:=b next r.1 r.2 j;exact sw b h a r.1 _ M
  .rfl
theorem zS:∀(d d' i:Nat),L.length<=d+i->L.length<=d'+i->qX L K may d i=qX L K may d' i
 |0,0,i,_,_=>rfl|0,d'+1,i,h,_=>by grind [vC,qX]
 |d+1,0,i,_,h=>by grind [vC,qX]|d+1,d'+1,i,h,b=>by
  simp only[qX];congr 1;funext n;split
  .exact sw (m:=i+1) (λi e a h=>(AQ L K may d i e a h).1) (λj c=>zS d d' j M M) _ _ _ (bq _)
  .rfl
def sub(i:Nat):V (Nat×Nat):=qX L K may L.length i
theorem yH(i:Nat):sub L K may i=(L[i]?).bind λn=>if may n=W then hO (sub L K may) (K n) (i+1) 0 else Y:=by
 by_cases hi:i<L.length
 .obtain ⟨d,a⟩:∃d,L.length=d+1:=⟨L.length-1,M⟩
  unfold sub;conv=>lhs;rw[a]
  simp only[qX];congr 1;funext n;split
  .exact sw (m:=i+1) (λi e b h=>(AQ L K may d i e b h).1) (λj c=>zS L K may d L.length j M M) _ _ _ (bq _)
  .rfl
 .have:L[i]?=Y:=vC M;rw[this,Option.bind_none];unfold sub;cases L.length with
  |zero=>rfl|succ d=>grind [qX]
def Dz{i e a:Nat}(h:sub L K may i=O (e,a)):i<e/\1<=a/\a<=e-i:=AQ L K may _ _ _ _ h
def sub_le{i e a:Nat}(h:sub L K may i=O (e,a)):e<=L.length:=Pb L K may _ _ _ _ h
theorem zT{f:Nat->V (Nat×Nat)}{P:Nat->Prop}(d:∀i e a,f i=O (e,a)->∀j,i<=j->j<e->P j):∀(b:Z Int)(next nG e a:Nat),hO f b next nG=O (e,a)->∀j,next<=j->j<e->P j
 |[],next,nG,e,a,h,j,g,c=>by grind [hO,aN,cz]|k::b,next,nG,e,a,h,j,g,c=>by
  simp only[hO]at h;split at h
  .obtain ⟨r,g1,l⟩:=mT.1 h;by_cases m:j<r.1
   grind
   .exact zT d b r.1 _ e a l j M c
  grind
theorem yI:∀(d i e c:Nat),qX L K may d i=O (e,c)->∀j,i<=j->j<e->(sub L K may j).isSome=W
 |0,i,e,c,h,j,p,l=>by cases h
 |d+1,i,e,c,h,j,p,l=>by
  simp only[qX]at h;obtain⟨n,u,m⟩:=mT.1 h;split at m
  .rename_i o;by_cases q:j=i
   .subst q;have s:∀d j r,qX L K may d j=O r->sub L K may j=O r:=by
     intro d;induction d with
     |zero=>intro j r h;cases h
     |succ d v=>
      intro j r h;rw[yH];simp only[qX]at h;obtain⟨n,a,b⟩:=mT.1 h;rw[a,aE];split at b
      .rename_i o;rw[aq o];have w:∀(f:Z Int)(next g:Nat) r,hO (qX L K may d) f next g=O r->hO (sub L K may) f next g=O r:=by
        intro f;induction f with
        |nil=>intro next g r h;exact h|cons k f x=>
         intro next g r h;simp only[hO]at h⊢;split at h
         .rename_i t;rw[aq t]
          grind [Option.bind_eq_some_iff]
         grind
       grind
      grind
    rw[s (d+1) j (e,c) (by simp only[qX];grind)];rfl
   .exact zT (λi e c h=>yI d i e c h) _ _ _ _ _ m j M l
  grind
end
end Go.X
namespace Go.Proofs.Mo
open Go Go.Ev Go.X
abbrev KT(n:Int):Prop:=-9223372036854775808<=n/\n<=9223372036854775807
def iv{σ α:Type}{h:σ}{k:σ->V α}{P:α->Prop}(b:∀a,a=h->T (k a) P):T (cw h k) P:=b h rfl
section
variable{β:Type}
def QP{l:Z (V (Z β))}{xs:Z β}:e8 (l++[O xs]) l.length=O xs:=by simp[e8]
def XJ{l:Z (V (Z β))}{q n:Nat}{zs:Z β}(h:e8 l q=O zs)(a:n<=zs.length):gH l (O (q,n))=O (zs.take n):=by simp only[gH,h,aE,xw a,aW]
def aaM(l:Z (V (Z β)))(p:V (Nat×Nat))(xs:Z β):gH (iK l p++[O xs]) (O ((iK l p).length,xs.length))=O xs:=by rw[XJ QP (bq _),GC]
end
end Go.Proofs.Mo
namespace Go.Ev
open Go
variable{df:Z AV}{d k K:Nat}{o:Obj}{Bs:Z Nat}
section
variable{P:ai}{E:cd}{w0:af}{I0:aA}{n:Nat}{s:St}{a:Act}{w w':af}{I:aA}{be:Nat->V Nat}
def cd.D8 (E:cd) (k B:Nat) (o:Obj) (df:Z AV):cd where
 hS:=λw=>E.hS w/\¬E.cf w B/\w.heap[B]?=O o
 cf:=λw b=>E.cf w b∨b=B
 iU:=λw w' ⟨c,d,e⟩ a=>by
  obtain⟨g,h⟩:=E.iU w w' c λb f=>a b (.inl f)
  grind
 lt:=λw b ⟨c,d,e⟩ a=>by
  rcases a with a|rfl
  .exact E.lt w b c a
  grind
 qp:=E.qp
 cT:=E.cT
 ro:=E.ro
 it:=b8 E.it k B
 df:=df
structure fM(E:cd)(w0 w:World)(I:aA)(be:Nat->Option Nat)(s:St)(B:Nat):Prop where
 new:E.fresh w0 B
 lt:B<w.heap.size
 mem:∀p,I p->p.block≠B
 cf:¬E.cf w B
 box:∀d,s.b d≠Y->be d≠O B
 ob:∀j,s.a j≠Y->I.ar j≠O B
theorem aJ.yY (h:aJ P E w0 I0 n s a w I be) {B:Nat} (g:fM E w0 w I be s B) (x:w.heap[B]?=O o):aJ P (E.D8 k B o df) w0 I0 n s a w I be:=by
 have c:=h.since;refine⟨⟨c.os,c.tape,c.output,c.size,λk y f z=>c.block k y (λA=>f (.inl A)) z,λb i=>?_,⟨c.hS,g.cf,x⟩,c.oO,c.ar,c.IY,c.shape,c.new,c.lt,λp t f=>?_⟩,h.size,h.defers,h.ct,h.bD,h.inj,λd B' u l=>?_,h.ru,⟨h.aZ.h7,h.aZ.inj,λj B' v l=>?_,h.aZ.un,h.aZ.ro⟩⟩
 .rcases i with i|rfl
  .exact (c.cf b i).imp .inl id
  .exact .inl (.inr rfl)
 .rcases f with f|f
  .exact c.off p t f
  .exact g.mem p t f
 .obtain ⟨q1,m,q,r⟩:=h.bR d B' u l;refine⟨q1,m,q,λf=>f.elim r λe=>g.box d u (by grind)⟩
 .obtain ⟨q1,m,q,r,C⟩:=h.aZ.bR j B' v l;exact⟨q1,m,q,λf=>f.elim r λe=>g.ob j v (by grind),C⟩
theorem aJ.D9 {B:Nat} (h:aJ P (E.D8 k B o df) w0 I0 n s a w I be) (x:E.fresh w0 B):aJ P E w0 I0 n s a w I be/\fM E w0 w I be s B/\w.heap[B]?=O o:=by
 have c:=h.since;refine⟨⟨⟨c.os,c.tape,c.output,c.size,λk A f y=>c.block k A (λC=>C.elim f λe=>by subst e;exact x.elim (λh=>M) y) y,λb z=>?_,c.hS.1,c.oO,c.ar,c.IY,c.shape,c.new,c.lt,λp g f=>c.off p g (.inl f)⟩,h.size,h.defers,h.ct,h.bD,h.inj,λd B' i l=>?_,h.ru,⟨h.aZ.h7,h.aZ.inj,λj B' m l=>?_,h.aZ.un,h.aZ.ro⟩⟩,⟨x,(rr.1 c.hS.2.2).1,λp g e=>c.off p g (.inr e),c.hS.2.1,λd i q=>(h.bR d B i q).2.2.2 (.inr rfl),λj m q=>(h.aZ.bR j B m q).2.2.2.1 (.inr rfl)⟩,c.hS.2.2⟩
 .rcases c.cf b (.inl z)with(r|r)|r
  grind
  .subst r;exact (c.hS.2.1 z).elim
  grind
 .obtain ⟨q1,t,u,v⟩:=h.bR d B' i l;exact⟨q1,t,u,λf=>v (.inl f)⟩
 .obtain ⟨q1,t,u,v,D⟩:=h.aZ.bR j B' m l;exact⟨q1,t,u,λf=>v (.inl f),D⟩
theorem aJ.pF (h:aJ P E w0 I0 n s a w I be) (f:∀B∈Bs,fM E w0 w I be s B) (z:w'.os=w.os) (A:w'.tape=w.tape) (C:w'.output=w.output) (hsz:w.heap.size<=w'.heap.size)
  (l:∀k,k∉Bs->k<w.heap.size->w'.heap[k]?=w.heap[k]?) (q:∀B',gZ w w' B'):aJ P E w0 I0 n s a w' I be:=by
 have D:=h.since.step (I':=I) z A C hsz (λk=>k∈Bs) (λk c o=>l k o c) (λk c=>⟨(f k c).new,(f k c).cf⟩) q (λ_ h=>h) rfl (λ_ h=>.inl h);have m:dK w w' I I:=.world (λp v r hv=>by rw[dn (l p.block (λe=>(f _ e).mem p r rfl) (h.since.lt p r))];grind) q;have u:∀d B',s.b d≠Y->be d=O B'->w'.heap[B']?=w.heap[B']?:=λd B' g j=>l B' (λe=>(f _ e).box d g j) (h.bR d B' g j).2.1;have g:∀d,s.g d<s.g d∨(s.g d=s.g d/\fy P w w' be be s.b s.b d):=λd=>.inr ⟨rfl,.ig rfl rfl (λB' G=>u d B' G)⟩;refine⟨D,h.size,h.defers.mono m,λt H=>(h.ct t H).eP m g,λd x J=>(h.bD d x J).eP m g rfl (λB'=>u d B' (by grind)),h.inj,λd B' g j=>?_,h.ru,h.gi m rfl (λk=>k∈Bs) (λi B' hi j e=>(f B' e).ob i hi j) (λk c o=>l k o c) hsz (λk c=>(f k c).cf) (λ_ h=>.inl h) (λ_ h=>.inl h)⟩;have K:∀b,E.cf w' b->E.cf w b:=(E.iU w w' h.since.hS (λb y=>l b (λe=>(f b e).cf y) (E.lt w b h.since.hS y))).2;obtain⟨q1,L,N,Q⟩:=h.bR d B' g j
 grind
def fM.pF {B:Nat} (h:aJ P E w0 I0 n s a w I be) (f:∀B∈Bs,fM E w0 w I be s B) (d:B∈Bs) (hsz:w.heap.size<=w'.heap.size) (g:∀k,k∉Bs->k<w.heap.size->w'.heap[k]?=w.heap[k]?):fM E w0 w' I be s B:=by have i:∀b,E.cf w' b->E.cf w b:=(E.iU w w' h.since.hS (λb d=>g b (λe=>(f b e).cf d) (E.lt w b h.since.hS d))).2;have c:=f B d;exact⟨c.new,jQ c.lt hsz,c.mem,λj=>c.cf (i _ j),c.box,c.ob⟩
def aJ.Ll (h:aJ P E w0 I0 n s a w I be):aJ P {E with df:=df} w0 I0 n s a w I be:=by have b:=h.since;exact⟨⟨b.os,b.tape,b.output,b.size,b.block,b.cf,b.hS,b.oO,b.ar,b.IY,b.shape,b.new,b.lt,b.off⟩,h.size,h.defers,h.ct,h.bD,h.inj,h.bR,h.ru,⟨h.aZ.h7,h.aZ.inj,h.aZ.bR,h.aZ.un,h.aZ.ro⟩⟩
def aJ.aaX (h:aJ P {E with df:=df} w0 I0 n s a w I be):aJ P E w0 I0 n s a w I be:=by have b:=h.since;exact⟨⟨b.os,b.tape,b.output,b.size,b.block,b.cf,b.hS,b.oO,b.ar,b.IY,b.shape,b.new,b.lt,b.off⟩,h.size,h.defers,h.ct,h.bD,h.inj,h.bR,h.ru,⟨h.aZ.h7,h.aZ.inj,h.aZ.bR,h.aZ.un,h.aZ.ro⟩⟩
def fM.Ll {B:Nat} (h:fM E w0 w I be s B):fM {E with df:=df} w0 w I be s B:=⟨h.new,h.lt,h.mem,h.cf,h.box,h.ob⟩
theorem aJ.U9 (h:aJ P E w0 I0 n s a w I be) {B:Nat} (f:fM E w0 w I be s B) {cur:Array ag} {t:an} {cs:Z cH} (hw:w.heap[B]?=O (.cells cur t (0,0))) (k:cur.size=cs.length)
  (l:∀(j:Nat)(c:cH),cs[j]?=O c->∀be b g,bU P w I be b g (cur.getD j undef) c) (r:d<n->a.tmps.getD d undef=.pointer (O ⟨B,0,Y⟩)):
  aJ P E w0 I0 n (s.ep d cs) a w I (b8 be d (O B)):=by
 have m:=h.mz d (.cells cs) (O B) ⟨B,cur,t,aH,hw,k,λj c o=>l j c o _ _ _⟩ (λB' e=>by cases e;exact⟨f.new,f.lt,f.mem,f.cf,λd' _ p=>f.box d' p⟩) (λB' e i hi=>by cases e;exact f.ob i hi);have q:=m.Ke d (u:=.dT d (s.g d+1) 0 0 0) λv=>⟨aH,λ_ _=>⟨B,aH,by grind⟩⟩
 exact q
theorem fM.U9 {B B':Nat} {cs:Z cH} (c:B≠B') (a:fM E w0 w I be s B'):fM E w0 w I (b8 be d (O B)) (s.ep d cs) B':=by
 refine⟨a.new,a.lt,a.mem,a.cf,λd' b=>?_,a.ob⟩;by_cases e:d'=d;simp_all
 .rw[aO _ _ e];exact a.box d' (by simpa[St.ep,St.put,aO _ _ e]using b)
theorem aJ.oL (h:aJ P E w0 I0 n s a w I be) {B:Nat} (c:s.b d≠Y) (f:be d=O B):aJ P E w0 I0 n {s with b:=b8 s.b d Y} a w I be/\fM E w0 w I be {s with b:=b8 s.b d Y} B:=by
 obtain⟨o1,o2,o3,i⟩:=h.bR d B c f;refine⟨h.drop d,o1,o2,o3,i,λd' k g=>?_,λj l g=>(h.aZ.bR j B l g).2.2.2.2 ⟨d,c,f⟩⟩;have e:d'≠d:=λe=>by simp_all
 have m:s.b d'≠Y:=by simpa[aO _ _ e]using k
 exact e (h.inj d' d B m c g f)
theorem fM.oL {B:Nat} (a:fM E w0 w I be s B):fM E w0 w I be {s with b:=b8 s.b d Y} B:=
 ⟨a.new,a.lt,a.mem,a.cf,λd' c=>by
  by_cases e:d'=d;simp_all
  .exact a.box d' (by simpa[aO _ _ e]using c),a.ob⟩
end
mutual
inductive Sh where
 |bool
 |int (k:IntKind)
 |string
 |slice (e:Sh)
 |struct (fs:xt)
inductive xt where
 |nil
 |cons (s:Sh) (r:xt)
end
mutual
def Sh.size:Sh->Nat
 |.struct fs=>fs.size|_=>1
def xt.size:xt->Nat
 |.nil=>0|.cons s r=>s.size+r.size
end
def Sh.a7:Sh->aa
 |.struct _=>W|_=>F
mutual
def Sh.cF (P:ai):Sh->an->aa
 |.bool,t=>match P.underlying t with
  |some .bool=>P.cellsOf t==1|_=>F
 |.int k,t=>match P.underlying t with
  |some (.int k')=>k'==k&&P.cellsOf t==1|_=>F
 |.string,t=>match P.underlying t with
  |some .string=>P.cellsOf t==1|_=>F
 |.slice e,t=>match P.underlying t with
  |some (.slice a)=>e.cF P a&&P.cellsOf t==1|_=>F
 |.struct fs,t=>match P.underlying t with
  |some (.struct b)=>fs.cF P 0 (b.toList.map λf=>(f.offset,f.type))&&P.cellsOf t==fs.size|_=>F
def xt.cF (P:ai):xt->Nat->Z (Nat×an)->aa
 |.nil,_,[]=>W|.cons s r,k,(o,t)::l=>o==k&&s.cF P t&&r.cF P (k+s.size) l
 |_,_,_=>F
end
mutual
theorem Sh.Gs {P:ai}:∀{s:Sh}{t:an},s.cF P t=W->P.cellsOf t=s.size
 |.bool,t,h=>by grind [Sh.cF,Sh.size]|.int k,t,h=>by grind [Sh.cF,Sh.size]
 |.string,t,h=>by grind [Sh.cF,Sh.size]|.slice e,t,h=>by grind [Sh.cF,Sh.size]
 |.struct fs,t,h=>by grind [Sh.cF,Sh.size]
end
mutual
def Sh.iy (K:Nat):Sh->AV->Prop
 |.bool,x=>∃b,x=.fl (.bool b)|.int k,x=>∃n,x=.fl (.int k n)/\k.min<=n/\n<=k.max
 |.string,x=>∃l,x=.fl (bs l)/\l.length<=K|.slice e,x=>∃xs,x=.sl xs/\xs.length<=K/\∀y∈xs,e.iy K y
 |.struct fs,x=>∃cs,x=.agg cs/\fs.iy K cs
def xt.iy (K:Nat):xt->Z AV->Prop
 |.nil,cs=>cs=[]|.cons s r,cs=>∃x a,s.iy K x/\r.iy K a/\cs=x.cells++a
end
structure Eb{H:Type}(K:Nat)(Q:DataW H->Prop):Prop where
 str:∀b:List UInt8,Q (.lit (.string b))->b.length<=maxLen->b.length<=K
 len:∀es sp,Q (.slice es sp)->es.length<=maxLen->es.length<=K
 elem:∀es sp d,Q (.slice es sp)->d∈es->Q d
 part:∀ps d,Q (.agg ps)->d∈ps->Q d
mutual
theorem Sh.mb:∀{s:Sh}{x:AV},s.iy K x->x.cells.length=s.size/\x.wf
 |.bool,x,h=>by obtain ⟨b,rfl⟩:=h;simp[AV.cells,Sh.size,AV.wf,AV.isAgg]|.int k,x,h=>by obtain ⟨n,rfl,_⟩:=h;simp[AV.cells,Sh.size,AV.wf,AV.isAgg]
 |.string,x,h=>by obtain ⟨l,rfl,_⟩:=h;simp[AV.cells,Sh.size,AV.wf,AV.isAgg]|.slice e,x,h=>by obtain ⟨xs,rfl,_⟩:=h;simp[AV.cells,Sh.size,AV.wf,AV.isAgg]
 |.struct fs,x,h=>by obtain⟨cs,rfl,h⟩:=h;obtain⟨a,c⟩:=xt.mb h;exact⟨by simpa[AV.cells,Sh.size]using a,by simpa[AV.wf,AV.cells]using c⟩
theorem xt.mb:∀{s:xt}{cs:Z AV},s.iy K cs->cs.length=s.size/\∀c∈cs,c.isAgg=F
 |.nil,cs,h=>by grind [xt.iy,xt.size]|.cons s r,cs,h=>by
  obtain⟨x,ds,b,d,rfl⟩:=h;obtain⟨e,f⟩:=Sh.mb b;obtain⟨g,i⟩:=xt.mb d;refine⟨by simp[xt.size,e,g],λc a=>?_⟩;rcases fK.1 a with a|a
  .exact f c a
  grind
end
def World.all (w:af):aA:=⟨λp=>p.block<w.heap.size,λ_=>Y⟩
theorem Ny{w:af}{base:Nat}{a:bY}{n:Nat}{cs:Z ag}(h:w.cells? base a n=O cs):cs.length=n/\∀(i:Nat)(v:ag),cs[i]?=O v->w.cell? (a.add i)=O v:=by
 unfold World.cells? at h;split at h
 .refine ⟨by rw[mapM_some_length h];simp,λi v hv=>?_⟩;have hi:i<n:=by
   have b:=mapM_some_length h
   grind
  have:=mapM_some_get h i i (by simp[hi])
  grind
 .cases h
theorem mw{w:af}{p:bY}{v:ag}(h:w.cell? p=O v):p.block<w.heap.size:=by grind [World.cell?,Array.getElem?_eq_some_iff]
section
variable{H:Type}{enc:an×ag->H}{P:ai}{w:af}{base:Nat}{sp:Nat->aa}{held:aa}
def vu(w:af)(cs:Z ag)(a:Z AV):Prop:=cs.length=a.length/\∀(j:Nat)(v:ag)(c:AV),cs[j]?=O v->a[j]?=O c->cy w (World.all w) v c
theorem Ec{K:Nat}{Q:DataW H->Prop}{n:Nat}{cs:Z ag}(g:∀(s:Sh)(t:an)(cs:Z ag)(x:DataW H×Z MemPlace),s.cF P t=W->DataW.trod enc P w base sp held n t cs=O x->Q x.1->∃v:AV,s.iy K v/\vu w cs v.cells):
  ∀(fs:xt)(k:Nat)(a:Z Field),fs.cF P k (a.map λf=>(f.offset,f.type))=W->
   (∀f∈a,∃x,DataW.trod enc P w base sp held n f.type ((cs.drop f.offset).take (P.cellsOf f.type))=O x/\Q x.1)->k+fs.size=cs.length->
   ∃row,fs.iy K row/\vu w (cs.drop k) row
 |.nil,k,a,b,hm,d=>by simp only[xt.size]at d;exact⟨[],rfl,by simp[vu,<-d]⟩|.cons s r,k,[],b,hm,d=>by simp[xt.cF]at b|.cons s r,k,f::a,b,hm,d=>by
  simp only[gb,xt.cF,aP,gE]at b;obtain⟨⟨B,h⟩,l⟩:=b;obtain⟨x,m,o⟩:=hm f aH;simp only[xt.size]at d;obtain⟨v,hv,p⟩:=g s f.type _ x h m o;obtain⟨row,q,i⟩:=Ec g r (k+s.size) a l (λy z=>hm y (by simp[z])) M;have C:=Sh.Gs h;have D:=(Sh.mb hv).1;refine⟨v.cells++row,⟨v,row,hv,q,rfl⟩,?_,λj u c E e=>?_⟩
  .have:=i.1
   grind
  .by_cases A:j<v.cells.length
   .rw[oU A]at e;refine p.2 j u c ?_ e
    grind
   .rw[oV M]at e;refine i.2 (j-v.cells.length) u c ?_ e
    grind
theorem Ed{K:Nat}{Q:DataW H->Prop}(r:Eb K Q):∀(bj:Nat)(s:Sh)(t:an)(cs:Z ag)(x:DataW H×Z MemPlace),s.cF P t=W->DataW.trod enc P w base sp held bj t cs=O x->Q x.1->∃v:AV,s.iy K v/\vu w cs v.cells
 |0,s,t,cs,x,g,h,A=>by simp[DataW.trod]at h|bj+1,s,t,cs,x,g,h,A=>by
  have one:∀(u:ag)(c:AV),cy w (World.all w) u c->vu w [u] [c]:=λu c D=>⟨rfl,λj v d hv d0=>by grind⟩
  cases s with
  |bool=>
   unfold Sh.cF at g;split at g
   .rename_i m;obtain⟨b,rfl,_⟩:=DataW.trod_bool m h;exact⟨.fl (.bool b),⟨b,rfl⟩,one _ _ (.fl _ rfl)⟩
   .cases g
  |int k=>
   unfold Sh.cF at g;split at g
   .rename_i k' m;simp only[aP,gE]at g;obtain⟨rfl,_⟩:=g;obtain⟨n,rfl,_,E⟩:=DataW.trod_int m h;simp only[Lit.wf,aP,aV]at E;exact⟨.fl (.int k' n),⟨n,rfl,E⟩,one _ _ (.fl _ rfl)⟩
   .cases g
  |string=>
   unfold Sh.cF at g;split at g
   .rename_i m;obtain⟨b,rfl,rfl,L⟩:=DataW.trod_string m h;exact⟨.fl (.string b),⟨b.data.toList,by rw[BK],r.str _ A (by simp_all)⟩,one _ _ (.fl _ rfl)⟩
   .cases g
  |slice e=>
   unfold Sh.cF at g;split at g
   .rename_i o m;simp only[aP,gE]at g;rcases DataW.trod_slice m h with⟨rfl,_⟩|⟨a,len,cap,e0,rest,n,N,rfl,rfl,_,L,hm,hlen,R,_,_⟩
    .exact ⟨.sl [],⟨[],rfl,aH,aH⟩,one _ _ (.fc 0)⟩
    .obtain rfl:n=bj:=M;have hsz:=Sh.Gs g.1;have S:∀i,i<len->∃(l:Z ag)(v:AV),w.cells? base (a.add (i*P.cellsOf o)) (P.cellsOf o)=O l/\e.iy K v/\vu w l v.cells:=λi hi=>by
      have p:=R i hi;rw[cX M]at p;obtain⟨l,C,z⟩:=mT.1 p;obtain⟨v,f0,g0⟩:=Ed r n e o l _ g.1 z (r.elem _ _ _ A (gC.2 ⟨_,fR _,rfl⟩))
      grind
     have T:∃f:Nat->AV,∀i,i<len->∃l:Z ag,w.cells? base (a.add (i*P.cellsOf o)) (P.cellsOf o)=O l/\e.iy K (f i)/\vu w l (f i).cells:=by
      classical
      refine⟨λi=>if h:i<len then Classical.choose (Classical.choose_spec (S i h))else default,λi hi=>?_⟩
      grind
     obtain⟨f,U⟩:=T;have G:∀(i:Nat)(x:AV),((List.range len).map f)[i]?=O x->i<len/\f i=x:=λi x q=>by grind
     have X:∀(i j:Nat)(x c:AV),((List.range len).map f)[i]?=O x->x.cells[j]?=O c->∃u,w.cell? (a.add (i*P.cellsOf o+j))=O u/\cy w (World.all w) u c:=λi j x c q B=>by
      obtain⟨hi,rfl⟩:=G i x q;obtain⟨l,p,C,z⟩:=U i hi;have I:j<l.length:=by rw[z.1];grind
      refine⟨l[j],?_,z.2 j _ c (by simp[I]) B⟩;have:=(Ny p).2 j l[j] (by simp[I]);rwa[Addr.add_add]at this
     have h0:=r.len _ _ A dx;refine⟨.sl ((List.range len).map f),⟨_,rfl,by grind,λy i0=>?_⟩,one _ _ (.sl a len cap (P.cellsOf o) _ (λi j=>(w.cell? (a.add (i*P.cellsOf o+j))).getD undef) aH (by grind) hm (λi x q=>?_) (λi j x c q B=>?_) (λi j x c q B=>?_) (λi j x c q B=>?_))⟩
     grind
     .obtain ⟨hi,rfl⟩:=G i x q
      grind [Sh.mb,trans]
     grind
     .obtain ⟨u,p,_⟩:=X i j x c q B;exact mw p
     grind
   .cases g
  |struct fs=>
   unfold Sh.cF at g;split at g
   .rename_i a0 m;simp only[aP,gE]at g;obtain⟨xs,n,N,rfl,j0,k0,l0⟩:=DataW.trod_struct m h;obtain rfl:n=bj:=M;obtain⟨J,b0,D⟩:=Ec (n:=n) (cs:=cs) (λs t cs x p C z=>Ed r n s t cs x p C z) fs 0 a0.toList g.1 (λf c0=>by
     obtain⟨i,hi⟩:=List.getElem?_of_mem c0;rw[tz]at hi;have m0:i<xs.length:=by grind
     exact⟨xs[i],by grind,r.part _ _ A (gC.2 ⟨_,fR _,rfl⟩)⟩) (by grind)
    exact⟨.agg J,⟨J,rfl,b0⟩,by simpa[pQ]using D⟩
   .cases g
end
end Go.Ev
namespace Go.Ev
open Go Go.ChangeShapes Go.WideShapes Go.RowKit
variable{qk:af}{s:Sh}{K base:Nat}{t:an}{r:Reach}{xs:Z AV}
section
variable{H:Type}{enc:an×ag->H}{P:ai}
theorem ue(f:laidOutB P=W){qk g:af}(i:Below qk.heap.size qk g){j:Nat->aa}:∀{ts:Z an}{vs:Z ag}{ds:Z (DataW H)}{ps:Z MemPlace},
  (ts.all λt=>P.readableRec t&&decide (t<P.types.size))=W->DataW.TrodAll enc P qk 0 (λ_=>W) W ts vs ds ps->(∀x∈ps,x.block<qk.heap.size)->(∀x∈ps,j x.block=W)->DataW.TrodAll enc P g 0 j W ts vs ds ps
 |[],vs,ds,ps,b,h,c,e=>by obtain⟨rfl,rfl,rfl⟩:=trodAll_nil h;exact trodAll_mk0|t::ts,vs,ds,ps,b,h,c,e=>by obtain⟨v,vs,d,ds,p,q,rfl,rfl,rfl,k,l⟩:=trodAll_cons h;simp only[tC,aP,aV]at b;exact trodAll_cons_mk (WideElems.Trod_stays f b.1.1 b.1.2 k (λx a=>i.same (c x (by simp[a]))) (λx a=>e x (by simp[a]))) (ue f i b.2 l (λx a=>c x (by simp[a])) (λx a=>e x (by simp[a])))
theorem Rc{f:Func}{s:ChangeSpec}{B C D:aa}{d:af}{args:Array ag}{c h:Z (DataW H)}{i:Z MemPlace}{k:an}(J:laidOutB P=W)(K:(f.params.toList.all λt=>P.readableRec t&&decide (t<P.types.size))=W)
  (l:f.resultTypes=#[k]) (m:P.underlying k=O .bool) (hv:s.vars=[]) (n:s.fn H (c++h)={results:=[.lit (.bool W)],args:=c})
  (g:DataW.Whole enc P f.params.toList s.vars F qk args.toList c h i) (o:Below qk.heap.size qk d):s.post enc P f F B C D qk args (.bool W) d:=by
 have E:=g;have G:∀x∈i,x.block<qk.heap.size:=λx e=>by simpa using g.lt x e
 obtain⟨p,q,L,u,rfl,hz,N⟩:=g;rw[hv]at u;obtain⟨rfl,rfl⟩:=trodVars_none u;have v:∀a:Nat->aa,(∀x∈p++[],a x.block=W)->DataW.TrodAll enc P d 0 a W f.params.toList args.toList (s.fn H (c++[])).args p:=λa Q=>by grind [ue]
 have w:∀(b:Nat)(a:Nat->aa)(y:aa),DataW.TrodAll enc P d b a y f.resultTypes.toList ((Value.bool W).resultList f.resultTypes.size) (s.fn H (c++[])).results []:=λb a y=>by rw[n,l];exact trodAll_cons_mk (shut_bool m _) trodAll_mk0
 have z:∀a:Nat->aa,DataW.TrodVars enc P d a s.vars (s.fn H (c++[])).vars []:=λa=>by rw[n,hv];rfl
 have I:∀(j:Nat)(t:an)(r:ag),f.resultTypes[j]?=O t->((Value.bool W).resultList f.resultTypes.size)[j]?=O r->Value.okWide P d .any 0 t r:=ok_one l rfl (okWide_bool_mk m W);refine⟨c,[],p++[],[],p,[],E,w _ _ _,v _ (λx e=>by grind),z _,World.keptBut_mono (λx e=>⟨e,?_⟩) (o.frame (·∈p++[])),λ_=>?_⟩
 grind
 .refine ⟨I,_,_,([]++p)++[],⟨[]++p,[],trodAll_append (v _ (λ_ _=>rfl)) (w _ _ _),z _,rfl,?_,?_⟩,?_⟩
  .intro b off e;have A:MemPlace.cell b off∈p++[]:=by grind
   rw[o.frozen (p:=⟨b,off,Y⟩) (G _ A)];exact hz b off A
  grind
  grind
def aa9{cs:Array ag}(b:s.a7=F)(a:s.cF P t=W)(h:Value.okWide P qk r base t (.agg cs)):False:=by
 cases s with
 |bool=>
  unfold Sh.cF at a;split at a
  .rename_i hu;simp[Value.okWide,hu,Cell.okWide,Cell.ok]at h
  .cases a
 |int k=>
  unfold Sh.cF at a;split at a
  .rename_i hu;simp[Value.okWide,hu,Cell.okWide,Cell.ok]at h
  .cases a
 |string=>
  unfold Sh.cF at a;split at a
  .rename_i hu;simp[Value.okWide,hu,Cell.okWide,Cell.ok]at h
  .cases a
 |slice e=>
  unfold Sh.cF at a;split at a
  .rename_i hu;simp[Value.okWide,hu,Cell.okWide,Cell.ok]at h
  .cases a
 |struct fs=>cases b
theorem Az{v:ag}(h:∀cs,v≠.agg cs):v.cells=#[v]:=by cases v<;>first|rfl|grind
theorem X9{Q:DataW H->Prop}(n:Eb K Q){v:ag}{d:DataW H}{ps:Z MemPlace}{o:Nat->aa}(g:s.cF P t=W)(i:Value.okWide P qk r base t v)(h:DataW.Trod enc P qk 0 o W t v d ps)(p:Q d):∃x:AV,s.iy K x/\cy qk (World.all qk) v x:=by
 obtain⟨q,h⟩:=h;obtain⟨x,a,f⟩:=Ed n q s t _ _ g h p;refine⟨x,a,?_⟩;by_cases u:s.a7=W
 .cases s with
  |struct fs=>
   obtain⟨cs,rfl,_⟩:=a;unfold Sh.cF at g;split at g
   .rename_i A w;simp only[Value.okWide,w]at i;obtain⟨vs,rfl,_,_⟩:=i;refine .agg vs cs (by simpa[Value.cells,pQ]using f.1) (λj c l=>?_);have y:j<vs.size:=by have:=f.1;grind [Value.cells,pQ,cr]
    exact f.2 j _ c (by simp[Value.cells,y]) (by simpa[pQ]using l)
   .cases g
  |_=>cases u
 .have m:s.a7=F:=by grind
  have hv:∀cs,v≠.agg cs:=λcs e=>aa9 m g (e▸i);have l:=Az hv;rw[l]at f;have z:x.cells=[x]:=by
   cases s with
   |struct fs=>cases m
   |bool=>obtain ⟨b,rfl⟩:=a;rfl|int k=>obtain ⟨b,rfl,_⟩:=a;rfl
   |string=>obtain ⟨b,rfl,_⟩:=a;rfl|slice e=>obtain ⟨b,rfl,_⟩:=a;rfl
  rw[z]at f;exact f.2 0 v x rfl rfl
def Aa(K:Nat):Z Sh->Z AV->Prop
 |[],[]=>True|s::ss,x::xs=>s.iy K x/\Aa K ss xs
 |_,_=>False
def vw{ss:Z Sh}(h:Aa K (s::ss) xs):∃x ys,xs=x::ys/\s.iy K x/\Aa K ss ys:=by
 cases xs with
 |nil=>exact h.elim|cons x ys=>exact ⟨x,ys,rfl,h.1,h.2⟩
theorem Gt(h:Aa K [] xs):xs=[]:=by
 cases xs with
 |nil=>rfl|cons x ys=>exact h.elim
def th(P:ai):Z Sh->Z an->aa
 |[],[]=>W|s::ss,t::ts=>s.cF P t&&th P ss ts
 |_,_=>F
theorem Lp{K:Nat}{Q:DataW H->Prop}(f:Eb K Q){qk:af}{base:Nat}{i:Nat->aa}:∀{ss:Z Sh}{ts:Z an}{vs:Z ag}{ds:Z (DataW H)}{ps:Z MemPlace},th P ss ts=W->(∀(j:Nat) t v,ts[j]?=O t->vs[j]?=O v->Value.okWide P qk .any base t v)->
  DataW.TrodAll enc P qk 0 i W ts vs ds ps->(∀d∈ds,Q d)->∃xs:Z AV,Aa K ss xs/\lN qk (World.all qk) vs xs
 |[],[],vs,ds,ps,a,b,h,e=>by obtain⟨rfl,rfl,rfl⟩:=trodAll_nil h;exact⟨[],trivial,rfl,λj v c hv=>by simp at hv⟩|[],_::_,vs,ds,ps,a,b,h,e=>by simp[th]at a|_::_,[],vs,ds,ps,a,b,h,e=>by simp[th]at a
 |s::ss,t::ts,vs,ds,ps,a,b,h,e=>by
  obtain⟨v,vs,d,ds,p,q,rfl,rfl,rfl,k,l⟩:=trodAll_cons h;simp only[th,aP]at a;obtain⟨x,m,r⟩:=X9 f a.1 (b 0 t v rfl rfl) k (e _ aH);obtain⟨xs,n,g⟩:=Lp f a.2 (λj t v u hv=>b (j+1) t v (by grind) (by grind)) l (λd o=>e d (by simp[o]));refine⟨x::xs,⟨m,n⟩,by simp[g.1],λj v c hv w=>?_⟩;cases j with
  |zero=>grind|succ j=>exact g.2 j v c (by grind) (by grind)
end
end Go.Ev
