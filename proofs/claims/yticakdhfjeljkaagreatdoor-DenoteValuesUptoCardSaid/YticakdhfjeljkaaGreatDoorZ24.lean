import Derived.Test.YticakdhfjeljkaaGreatDoorZ23
set_option linter.all false
set_option maxRecDepth 20000
open Option renaming some->O,none->Y
open Bool renaming true->W,false->F
open Go.Proofs.Tryz
noncomputable section
namespace Go.Proofs.Mo
open Go Go.Ev Go.X
variable{E:cd}{A:Nat->V Ob}{I1 I0:aA}{N:Nat}{w0:af}{r:HL U.C (YZ.map RK.ty)}{h':Hp}{s:S U.C}{a:Act}
def XW:eA 4 lI=.seq (IP (eA 4 lI)) (eA 5 lI):=ap
def XX:eA 2 (eA 5 lI)=.seq (.region 16 qj F) (eA 8 lI):=ap
def XY:List.range qj.size=List.range' 0 [Pu 0,Pu 1].length++[2]:=ap
theorem ad1:qj[0]?=O (Pu 0):=ap
theorem ad2:qj[1]?=O (Pu 1):=ap
theorem ad3:qj[2]?=O (Pu 2):=ap
abbrev t8(s:S U.C):S U.C:=((((((s.drop 10).drop 11).drop 12).put (O 50) .none).put (O 10) (.it 0)).put (O 11) (.it 1)).put (O 12) (.it 2)
theorem aa6:∀j o,[Pu 0,Pu 1][j]?=O o->qj[0+j]?=O o:=λj o h=>by grind [cJ,ad1,ad2]
theorem aa7:∀j o,[Pu 2][j]?=O o->qj[2+j]?=O o:=λj o h=>by grind [cJ,ad3]
theorem XZ(Q:oN E){f j k:Nat}(D:s.m=bF){q:St}{w:af}(R:aU PP {E.bX A I1 with df:=IL f j k} TT (X8 N) s q)(S:ko PP {E.bX A I1 with df:=IL f j k} w0 I0 f8.ntmps q a w)(h:aaZ N s=O (r,h'))
  {G:Exit->Act->af->Prop} (T:∀a w,(eA 8 lI).wp PP (bodyPostD PP f8 λe w=>Ve (E.bX A I1) w0 I0 r h' e w) a w->G .normal a w):wpOps PP qj G [2] a w:=by
 have t:bJ PP {E.bX A I1 with df:=IL f j k} TT (X8 N):=XV (E:={E.bX A I1 with df:=IL f j k}) ⟨λ_=>rfl,λw h=>Q.laid w h⟩ N;unfold aaZ at h;refine jA (n:=f8.ntmps) (rest:=[]) (kx:=λ_ _=>Y) SS.L t (sB:=s) (λ_=>rfl) (ops:=qj) ap (λH u y U X=>?_) (λav v H u y h0 i0 z _ _=>?_) [Pu 2] 2 s q a w aa7 (.refl s) h R S
 .obtain ⟨s2,a0,B,b0⟩:=U;refine T u y (pB (kk (w0:=w0) (I0:=I0) SS.L t (sB:=s) (λ_=>rfl) (kl SS.L SS.mo t) (Zloc:=λ_ _=>False) (λav j0 z=>by obtain ⟨p,s',_,_,g,_⟩:=z;grind) (eA 8 lI) .leaf s2 _ H (λe c=>∃e' b,e=ae e'/\aU PP {E.bX A I1 with df:=IL f j k} TT (X8 N) b c/\b.m=bF/\(∀i,e'≠.exit i)/\Nu N b=O (r,h')) ap B b0 a0 (λe' b c m1 m2 m=>?_) u y X) λe C J o=>?_)
  .cases e' with
   |exit i=>grind|normal=>exact ⟨.normal,b,rfl,m1,m2.m.trans (B.m.trans D),λi h=>(by grind),m⟩
   |ret=>exact ⟨.ret,b,rfl,m1,m2.m.trans (B.m.trans D),λi h=>(by grind),m⟩
  .have K:∀c b,ko PP {E.bX A I1 with df:=IL f j k} w0 I0 f8.ntmps c C J->aU PP {E.bX A I1 with df:=IL f j k} TT (X8 N) b c->b.m=bF->Nu N b=O (r,h')->Leaves PP f8 C.tmps (λe w=>Ve (E.bX A I1) w0 I0 r h' e w) C.defers .returning J:=λc b d L c0 d0=>by have e0:=IK (λ_=>rfl) t rfl L d c0 d0;obtain⟨k0,l0,d⟩:=d;have P:=d.defers;rw[L.df]at P;have f0:=ad0 P;rw[f0];refine xA aH Pw ((aa0 _ _ _ _).mono λe' u' m0 g0=>?_);obtain⟨rfl,rfl,rfl⟩:=g0;exact e0
   cases e with
   |normal=>obtain ⟨c,d,e',b,_,m1,m2,_,m⟩:=o;exact K c b d m1 m2 m|ret=>obtain ⟨c,d,e',b,_,m1,m2,_,m⟩:=o;exact K c b d m1 m2 m
   |exit id=>obtain ⟨c,d,e',b,e1,m1,m2,m4,m⟩:=o;cases e' with
    |exit i=>grind|normal=>cases e1
    |ret=>cases e1
   |goto l=>obtain ⟨c,d,e',b,e1,_⟩:=o;cases e'<;>cases e1
   |panic n0=>obtain ⟨x,v,s,I,be,_,h,_⟩:=o;grind|outgrown=>exact o.elim
 .obtain ⟨p,s',_,_,g,_⟩:=z
  grind
theorem Vj(C:oN E)(S:s.m=bF){q:St}{w:af}(B:aU PP (E.bX A I1) TT (X8 N) s q)(o:ko PP (E.bX A I1) w0 I0 f8.ntmps q a w)(h:Pv N s=O (r,h')):
  (eA 4 lI).wp PP (bodyPostD PP f8 λe w=>Ve (E.bX A I1) w0 I0 r h' e w) a w:=by
 unfold Pv adX at h;split at h
 .rename_i K1 L1 N1 P1 Q1 S1 t0 u0 x0 y0 A0 c3;obtain⟨g,h⟩:=az h;simp only[aP]at g;obtain⟨B0,C0,D0,E0,D,G,H⟩:=g;have D:=cC D;have G:=cC G;have H:=cC H;obtain⟨I,be,o⟩:=o;obtain⟨i,o1,j0,v1,H1,e1,q1⟩:=IJ o B (d:=10) b9 t0 y0 C0;obtain⟨l,o2,k0,v2,T,e2,y⟩:=IJ o B (d:=11) b9 u0 A0 D0;obtain⟨m,o3,l0,v3,U,e3,J⟩:=IJ o B (d:=12) b9 x0 c3 E0;have K:i≠l:=λe=>absurd (o.inj 10 11 i q1 y e1 (by grind)) b9;have L:i≠m:=λe=>absurd (o.inj 10 12 i q1 J e1 (by grind)) b9;have P:l≠m:=λe=>absurd (o.inj 11 12 l y J e2 (by grind)) b9;obtain⟨G0,Q⟩:=o.oL q1 e1;obtain⟨H0,R⟩:=G0.oL (d:=11) (by simpa[b8]using y) e2;obtain⟨X,m0⟩:=H0.oL (d:=12) (by simpa[b8]using J) e3;have Q:=(Q.oL (d:=11)).oL (d:=12);have R:=R.oL (d:=12);have a0:=Q.new;have b0:=R.new;have c0:=m0.new;have J0:=X.yY (k:=0) (df:=IL i l m) Q v1;have K0:=J0.yY (k:=1) (df:=IL i l m) (R.eP K) v2;have L0:=K0.yY (k:=2) (df:=IL i l m) ((m0.eP L).eP P) v3;rw[XW];refine kT (aa3 j0 k0 l0 o.size λd N0 P0=>?_);have T1:q.df=[]:=B.df;have U1:50<a.tmps.size:=by rw[o.size];decide
  let d0:St:={q with r:=b8 (b8 (b8 (b8 q.r 50 .none) 10 (.val (.fl (.pointer (O ⟨i,0,Y⟩))))) 11 (.val (.fl (.pointer (O ⟨l,0,Y⟩))))) 12 (.val (.fl (.pointer (O ⟨m,0,Y⟩)))),b:=b8 (b8 (b8 q.b 10 Y) 11 Y) 12 Y,df:=IL i l m}
  have Q0:aJ PP (Px (E.bX A I1) i l m o1 o2 o3) w0 I0 f8.ntmps d0 {(a.put (O 50) (.func (.func 19) #[] (vr i l m)))with defers:=d::a.defers} w I be:=by
   have z:=L0.put (O 50) (v:=.func (.func 19) #[] (vr i l m)) (r:=.none) trivial;have e0:=z.deferred N0 P0 (f:=19) (caps:=[.fl (.pointer (O ⟨i,0,Y⟩)),.fl (.pointer (O ⟨l,0,Y⟩)),.fl (.pointer (O ⟨m,0,Y⟩))]) (.fn _ _ _ rfl λj c x=>by
    match j,x with
    |0,x=>cases x;exact .fl _ rfl
    |1,x=>cases x;exact .fl _ rfl
    |2,x=>cases x;exact .fl _ rfl)
   have f0:∀t:Nat,t≠50->(a.put (O 50) (.func (.func 19) #[] (vr i l m))).tmps.getD t undef=a.tmps.getD t undef:=λt R0=>by simp[Act.put,Array.getElem?_setIfInBounds,R0.symm]
   have g0:=e0.Ke 10 (u:=.val (.fl (.pointer (O ⟨i,0,Y⟩)))) (λ_=>by show cy w I ((a.put (O 50) (.func (.func 19) #[] (vr i l m))).tmps.getD 10 undef) _;rw[f0 10 b9,j0];exact .fl _ rfl);have S0:=g0.Ke 11 (u:=.val (.fl (.pointer (O ⟨l,0,Y⟩)))) (λ_=>by show cy w I ((a.put (O 50) (.func (.func 19) #[] (vr i l m))).tmps.getD 11 undef) _;rw[f0 11 b9,k0];exact .fl _ rfl);have n0:=S0.Ke 12 (u:=.val (.fl (.pointer (O ⟨m,0,Y⟩)))) (λ_=>by show cy w I ((a.put (O 50) (.func (.func 19) #[] (vr i l m))).tmps.getD 12 undef) _;rw[f0 12 b9,l0];exact .fl _ rfl);have T0:(.fn 19 [.fl (.pointer (O ⟨i,0,Y⟩)),.fl (.pointer (O ⟨l,0,Y⟩)),.fl (.pointer (O ⟨m,0,Y⟩))]::q.df:Z AV)=IL i l m:=by grind
   simp only[St.put,T0]at n0;exact n0
  have U0:aU PP (Px (E.bX A I1) i l m o1 o2 o3) TT (X8 N) (t8 s) d0:=by have X0:=OQ (E':=Px (E.bX A I1) i l m o1 o2 o3) (X':=X8 N) rfl (((B.drop 10).drop 11).drop 12) B0;have z:=X0.put (O 50) (r:=.none) (u:=.none) (.none _);have e0:=z.put (O 10) (r:=.it 0) (u:=.val (.fl (.pointer (O ⟨(Px (E.bX A I1) i l m o1 o2 o3).it 0,0,Y⟩)))) (.it 0);have g0:=e0.put (O 11) (r:=.it 1) (u:=.val (.fl (.pointer (O ⟨(Px (E.bX A I1) i l m o1 o2 o3).it 1,0,Y⟩)))) (.it 1);exact g0.put (O 12) (r:=.it 2) (u:=.val (.fl (.pointer (O ⟨(Px (E.bX A I1) i l m o1 o2 o3).it 2,0,Y⟩)))) (.it 2)
  have o0:bJ PP (Px (E.bX A I1) i l m o1 o2 o3) TT (X8 N):=XV ⟨λ_=>rfl,λw h=>C.laid w (show((E.hS w/\_)/\_)/\_ from h).1.1.1⟩ N;refine vq (E:=Px (E.bX A I1) i l m o1 o2 o3) (kx:=NF N) (sB:=t8 s) SS.L SS.mo o0 (λ_=>rfl) (λav v y p0 q0 h0 r0 i0 p hv=>Vi (sB:=t8 s) C S a0 b0 c0 K L P H1 T U D G H i0 p hv) hs8 (eA 5 lI) (t8 s) _ _ d0 _ w ap (.refl _) h U0 ⟨I,be,Q0⟩ (λ_ _ _ _ _ _ h _=>by grind) (λs' a1 a' w' d1 i1 j1 k1=>?_);rw[show hs8.length=2 from rfl,XX];refine kT (oh ?_);rw[XY];refine jA (n:=f8.ntmps) (kx:=NF N) SS.L o0 (sB:=(t8 s)) (λ_=>rfl) (ops:=qj) ap (λy p0 q0 l1 p=>?_) (λav v y p0 q0 h0 r0 i0 p hv=>Vi (sB:=t8 s) C S a0 b0 c0 K L P H1 T U D G H i0 p hv) [Pu 0,Pu 1] 0 s' a1 a' w' aa6 i1 j1 d1 k1;obtain⟨s2,s0,m1,z⟩:=l1;obtain⟨h0,r0,p⟩:=p;obtain⟨t,n1,s1,w1,u1,x1,y1⟩:=Vg p a0 b0 c0;obtain⟨C1,D1,E1⟩:=Vh p s0 z;obtain⟨X1,J,G1,J1,X,m3,K3⟩:=Ln (df:=IL i l m) rfl s0 t n1 s1 w1 K L P u1 x1 y1 H1 T U C1 D1 E1 z;exact XZ C (m3.trans (m1.m.trans (show(t8 s).m=bF from S))) J1 ⟨h0,G1,X⟩ K3 λa w h=>h
 grind
theorem G8s(N:Nat)(E:cd)(o:oN E):nu (U:=U) PP E TT 8 XR YZ Y (.st (F8 N)):=by
 intro x h a r h' A Vloc G H q;rw[<-EC8]at q;have I:=sc (bx:=[]) (g:=λ_=>0) (tick:=1) XR 0 x a G;refine⟨Rk (U:=U) TT h',S7 U h',OJ SS.L h' _,?_⟩;have c:PP.funcs[8]?=O f8:=by simp_all
 have s:f8.body=O lI:=ap;refine⟨Go.Proofs.enters_of c ap s,λw0 I0 vs J K f u=>calls_of_wp_defers c s ?_⟩;have w:bJ PP (E.bX A I0) TT (X8 N):=XV (o.bX A I0) N;have L:aU PP (E.bX A I0) TT (X8 N) ({r:=kF XR 0 x,b:=[],tick:=1,h:=h}:S U.C) (qy a A Vloc):=by
  refine⟨λt=>?_,λd=>trivial,λt st y z=>?_,(λd st y z=>by cases z),H,rfl⟩
  .have:=CT (pg (P:=PP) (E:=E) A I0) (I.2.2 t);rw[S.ib];rw[aq (eM _),qn]at this;simp only;cases C:aF (kF XR 0 x) t with
   |none=>rw[C]at this;exact this|some e=>rw[C]at this;exact this
  grind
 have d0:a.length<=f8.ntmps:=by simp_all
 have e0:vs.size=a.length:=by simpa using u.1
 have Q:ko PP (E.bX A I0) w0 I0 f8.ntmps (qy a A Vloc) {tmps:=vs++Array.replicate (f8.ntmps-vs.size) undef,defers:=[]} w0:=by
  refine⟨I0,λ_=>Y,ee.refl (E:=E.bX A I0) J K,(by grind),.nil,λt f0=>qC u t,λd x l=>by simp[qy]at l,λd d' B R=>by grind,λd B R=>by grind,λd B _ _ h=>by simp[qy]at h,f.h7,f.inj,λi B hi T=>?_,f.un,λi x h=>by cases h⟩;obtain⟨q1,X,g0,h0,_⟩:=f.bR i B hi T
  grind
 refine vq (E:=E.bX A I0) (kx:=λ_ _=>Y) (sB:=({r:=kF XR 0 x,b:=[],tick:=1,h:=h}:S U.C)) SS.L SS.mo w (λ_=>rfl) (λav v X i0 j0 k0 l0 l _ _=>?_) [.leaf,.leaf,.leaf,.leaf] lI _ (Nu N) (Pv N) (qy a A Vloc) _ w0 ap (.refl _) q L Q (λs' a0 a' w' j m n k=>?_) (λs' a0 a' w' j m n k=>Vj o (m.m.trans rfl) j k n)
 .obtain ⟨p,s',_,_,g,_⟩:=l
  grind
 .have c:=IK (E1:=E.bX A I0) (df:=[]) (λ_=>rfl) w rfl j k (m.m.trans rfl) n;obtain⟨m0,n0,b0⟩:=k;have D:=b0.defers;rw[j.df]at D;have c0:=D.GH;show Leaves PP _ _ _ a'.defers _ _;rw[c0];exact c
def G8(N:Nat):Holds 8 (K8 N):=λE a=>gI ap (G8s N E a)
end Go.Proofs.Mo
namespace Go.Proofs.Mo
open Go Go.Ev Go.X
open Go.IntKind renaming i64->Wk
section
variable(N:Nat)
def F4:Wi->V aa:=λa=>aG (λ((e,_):Int×ab)=>bif 60<e then O W else bif 20<(a.ls.length:Int)then O W else bif 60<(a.m.aj.length:Int)then O W else bif 20000<a.bj then O (decide (a.bj<=1048576))else O F) λd=>aQ (λf(((b,c),_):(Int×Int)×ab)=>bif c<a.ls.length then bif c<100 then bif b<=1000 then(ax a.ls c).bind λg=>f ((Wk.wrap ((Wk.wrap (b+1))+(g.bC.length:Int)),Wk.wrap (c+1)),())else d (b,())else d (b,())else d (b,())) N ((0,0),())
abbrev K4:bZ U:=⟨[(.struct 30)],[.v .bool],Y,.pure (F4 N)⟩
def G4:Holds 4 (K4 N):=gP N f4 (.q (.q (.seq (O ⟨F,[1],[(3,.val .I)],[1],[]⟩) (.B ⟨F,[1],[(3,.val .I),(4,.val .I)],[1],[]⟩ .leaf) .leaf))) nl
def F5:Z dc->Hp->V (((V Nat)×(Z dc))×Hp):=λc h=>(F13 N c h).bind λa=>bif !(a.1.2.ka==0)then O ((Y,[]),a.2)else(F14 N c).bind λb=>bif !((b.Yq==0)&&((b.Ic==0)&&((b.part==0)&&((b.ka==0)&&W))))then O ((Y,[]),a.2)else O ((a.1.1,c),a.2)
abbrev K5:bZ U:=⟨[aY],[.v km,.v aY],Y,.st (F5 N)⟩
def G5:Holds 5 (K5 N):=gS N f5 .leaf (cn (G13 N) (cn (G14 N) nl))
def F15(N:Nat):Nd->V Nd:=λa=>(dv (cF 32 (0+a.bd.length) 140737488355328)).bind λ_=>(dv (cF 8 (0+a.aD.length) 140737488355328)).bind λ_=>(dv (cF 24 (0+a.bK.length) 140737488355328)).bind λ_=>O (Nd.mk a.iD a.au a.cu a.role (([]:Z _)++a.bd) (([]:Z _)++a.aD) (([]:Z _)++a.bK))
abbrev K15:bZ U:=⟨[cK],[.v cK],Y,.pure (F15 N)⟩
def G15:Holds 15 (K15 N):=gP N f15 .leaf nl
def F6:gB->V gB:=λa=>aG (λ(((f,g),_):(Int×(Z Nd))×ab)=>O (gB.mk f g)) λi=>aQ (λj(((b,d,c),_):(Int×Int×(Z Nd))×ab)=>bif b<a.aj.length then(ax a.aj b).bind λk=>(F15 N k).bind λe=>(dv (cF 120 (c.length+[e].length) 140737488355328)).bind λ_=>j ((Wk.wrap (b+1),d,c++[e]),())else i ((d,c),())) N ((0,a.next,[]),())
abbrev K6:bZ U:=⟨[cb],[.v cb],Y,.pure (F6 N)⟩
def G6:Holds 6 (K6 N):=gP N f6 (.q (.q (.seq (O ⟨F,[2,3],[],[2],[(3,.cells cb [.val .I,.bR 500301 cK 65])]⟩) (.B ⟨F,[1,2,3],[(4,.val .I)],[1,2],[(3,.cells cb [.val .I,.bR 500301 cK 65])]⟩ .leaf) .leaf))) (cn (G15 N) nl) [(7,999)]
def F7:oF->V oF:=λd=>aG (λ((e,_):(Z cY)×ab)=>O (oF.mk e)) λf=>aQ (λg(((b,c),_):(Int×(Z cY))×ab)=>bif b<d.aj.length then(ax d.aj b).bind λa=>(dv (cF 8 (0+a.aD.length) 140737488355328)).bind λ_=>(dv (cF 56 (c.length+[cY.mk a.kind a.text a.int (([]:Z _)++a.aD)].length) 140737488355328)).bind λ_=>g ((Wk.wrap (b+1),c++[cY.mk a.kind a.text a.int (([]:Z _)++a.aD)]),())else f (c,())) N ((0,[]),())
abbrev K7:bZ U:=⟨[eD],[.v eD],Y,.pure (F7 N)⟩
def G7:Holds 7 (K7 N):=gP N f7 (.q (.q (.seq (O ⟨F,[2,3],[],[2],[(3,.cells eD [.bR 500300 cU 68])]⟩) (.B ⟨F,[1,2,3],[(4,.val .I)],[1,2],[(3,.cells eD [.bR 500300 cU 68])]⟩ .leaf) .leaf))) nl
def F27:Nd×Nd->V aa:=λ(a,b)=>bif !(a.iD==b.iD)then O F else bif !(a.au==b.au)then O F else bif !(a.cu==b.cu)then O F else bif !(a.role==b.role)then O F else bif !((a.bd.length:Int)==(b.bd.length:Int))then O F else bif !((a.bK.length:Int)==(b.bK.length:Int))then O F else aG (λ(_:ab×ab)=>aG (λ(_:ab×ab)=>(GD N (a.aD,b.aD)).bind λj=>O j) λk=>aQ (λl((c,_):Int×ab)=>bif c<a.bK.length then(ax a.bK c).bind λe=>(ax b.bK c).bind λf=>bif !((e.role==f.role)&&((e.target==f.target)&&W))then O F else l (Wk.wrap (c+1),())else k ((),())) N (0,())) λm=>aQ (λn((d,_):Int×ab)=>bif d<a.bd.length then(ax a.bd d).bind λg=>(ax b.bd d).bind λi=>bif !((g.name==i.name)&&((g.value==i.value)&&W))then O F else n (Wk.wrap (d+1),())else m ((),())) N (0,())
abbrev K27:bZ U:=⟨[cK,cK],[.v .bool],Y,.pure (F27 N)⟩
def G27:Holds 27 (K27 N):=gP N f27 (.q (.q (.seq (O ⟨F,[2,3],[],[2,3],[]⟩) (.B ⟨F,[2,3],[(5,.val .I)],[2,3],[]⟩ .leaf) (.seq (O ⟨F,[2,3],[],[2,3],[]⟩) (.B ⟨F,[2,3],[(6,.val .I)],[2,3],[]⟩ .leaf) .leaf)))) (cn (G26 N) nl)
def F11:gB×gB->V aa:=λ(a,c)=>bif !(a.next==c.next)then O F else bif !((a.aj.length:Int)==(c.aj.length:Int))then O F else aG (λ(_:ab×ab)=>O W) λd=>aQ (λe((b,_):Int×ab)=>bif b<a.aj.length then(ax a.aj b).bind λf=>(ax c.aj b).bind λg=>(F27 N (f,g)).bind λi=>bif !i then O F else e (Wk.wrap (b+1),())else d ((),())) N (0,())
abbrev K11:bZ U:=⟨[cb,cb],[.v .bool],Y,.pure (F11 N)⟩
def G11:Holds 11 (K11 N):=gP N f11 (.q (.q (.J (.B ⟨F,[2,3],[(5,.val .I)],[2,3],[]⟩ .leaf) .leaf))) (cn (G27 N) nl)
def F12:oF×oF->V aa:=λ(e,f)=>bif !((e.aj.length:Int)==(f.aj.length:Int))then O F else aG (λ(_:ab×ab)=>O W) λg=>aQ (λi((c,_):Int×ab)=>bif c<e.aj.length then aG (λ(((n,o,p,r,s,t,u,y,z,b0,h,q,v,w,x,m0,A,B,C),_):(bP×bP×aa×Int×Int×aa×(Z Int)×Int×(Z Int)×Int×aa×Int×bP×Int×(Z Int)×Int×bP×Int×(Z Int))×ab)=>i (Wk.wrap (c+1),())) λj=>(ax e.aj c).bind λa=>(ax f.aj c).bind λb=>bif !(a.kind==b.kind)then O F else bif !(a.text==b.text)then O F else bif !(a.int==b.int)then O F else bif !((a.aD.length:Int)==(b.aD.length:Int))then O F else aQ (λk((d,_):Int×ab)=>bif d<a.aD.length then(ax a.aD d).bind λl=>(ax b.aD d).bind λm=>bif !(l==m)then O F else k (Wk.wrap (d+1),())else j ((a.text,b.text,!(a.text==b.text),a.int,b.int,!(a.int==b.int),a.aD,(a.aD.length:Int),b.aD,(b.aD.length:Int),!((a.aD.length:Int)==(b.aD.length:Int)),a.kind,a.text,a.int,a.aD,b.kind,b.text,b.int,b.aD),())) N (0,())else g ((),())) N (0,())
abbrev K12:bZ U:=⟨[eD,eD],[.v .bool],Y,.pure (F12 N)⟩
def G12:Holds 12 (K12 N):=gP N f12 (.q (.q (.J (.B ⟨F,[2,3],[(5,.val .I)],[2,3],[]⟩ (.q (.seq (O ⟨F,[2,3,5],[(39,.dT 6 1),(40,.val .str),(41,.dT 7 1),(42,.val .str),(43,.val .bool),(46,.dT 6 2),(47,.val .I),(48,.dT 7 2),(49,.val .I),(50,.val .bool),(53,.dT 6 3),(54,.val ec),(55,.val .I),(56,.dT 7 3),(57,.val ec),(58,.val .I),(59,.val .bool)],[2,3],[(6,.cells cU [.val .I,.val .str,.val .I,.val ec]),(7,.cells cU [.val .I,.val .str,.val .I,.val ec])]⟩) (.block (.q (.q (.B ⟨F,[2,3,5,6,7,39,40,41,42,43,46,47,48,49,50,53,54,55,56,57,58,59],[(8,.val .I)],[2,3,6,7],[]⟩ .leaf)))) .leaf))) .leaf))) nl
def F3:Wi×oF->Hp->V (aa×Hp):=λ(a,c) h=>(F4 N a).bind λi=>bif i then O (W,h)else bif 300<(c.aj.length:Int)then O (W,h)else(F5 N a.ls h).bind λe=>(F6 N a.m).bind λf=>(F7 N (oF.mk c.aj)).bind λg=>(F8 N (e.1.1,f,oF.mk g.aj,a.self,a.bj) e.2).bind λd=>(F9 N (e.1.2,a.m,oF.mk c.aj,a.self,a.bj) d.2).bind λb=>(O7 N (d.1.1,b.1.1)).bind λj=>bif j then bif d.1.2.1==b.1.2.1 then bif d.1.2.2==b.1.2.2 then(F11 N (f,a.m)).bind λk=>bif k then(F12 N (oF.mk g.aj,oF.mk c.aj)).bind λl=>O (l,b.2)else O (F,b.2)else O (F,b.2)else O (F,b.2)else O (F,b.2)
abbrev K3:bZ U:=⟨[(.struct 30),eD],[.v .bool],Y,.st (F3 N)⟩
def G3:Holds 3 (K3 N):=gS N f3 .leaf (cn (G4 N) (cn (G5 N) (cn (G6 N) (cn (G7 N) (cn (G8 N) (cn (G9 N) (cn (G10 N) (cn (G11 N) (cn (G12 N) nl)))))))))
end
end Go.Proofs.Mo
namespace Go.Proofs.Mo
open Go Go.Ev Go.X
variable{G:Gd}{bj self:Int}{m:gB}{E:Z cY}{t:V Nat}{ls:Z dc}
structure In3(ls:List dc)(m:gB)(E:List cY)(sf fu:Int):Prop where
 X6:iY ls
 aj:m.aj.length<=1048576
 node:∀n∈m.aj,ra n/\∀p∈n.bd,p.value.length<=1048576
 len:E.length<=1048576
 en:∀n∈E,n.text.length<=1048576/\n.aD.length<=1048576/\KT n.int
 aiX:KT sf
section
variable{N:Nat}(hN:1073741824<=N)
include hN
theorem ad4(l:Z Int)(f:l.length<=1048576):T (GD N (l,l)) λr=>r=W:=by
 unfold GD;simp only[kn,fQ,aX];refine aS (λ_=>True) (λJ b=>?_) λ_ _=>ad rfl;refine bl (λs=>0<=s.1/\s.1<=l.length) (λs=>(l.length-s.1).toNat) ⟨aH,aH⟩ (by grind) ?_;rintro rec ⟨p,u⟩ ⟨a,c⟩ g;dsimp only at a c⊢;refine a6 (λd=>?_) λ_=>b _ trivial;obtain⟨x,e,_,_⟩:=dJ a d;simp only[e,aE,kn,fQ,aX]
 grind [b7]
theorem aiY(v:dw)(hv:v.bk.length<=1048576):T (O7 N (v,v)) λr=>r=W:=by
 unfold O7;simp only[kn,aW]
 grind [aB,ad4,ad]
theorem tF4(w:Wi)(i:w.ls.length<=1048576):T (F4 N w) λr=>r=F->w.m.aj.length<=60:=by
 unfold F4;refine aS (λ_=>True) (λJ b=>?_) λs _=>?_
 .refine bl (λs=>0<=s.1.2/\s.1.2<=w.ls.length) (λs=>(w.ls.length-s.1.2).toNat) ⟨aH,aH⟩ (by grind) ?_;rintro rec ⟨⟨a,p⟩,u⟩ ⟨c,d⟩ e;dsimp only at c d⊢;refine a6 (λf=>?_) λ_=>b _ trivial;refine aw (λ_=>aw (λ_=>aL c f λx _ _=>e _ ⟨?_,?_⟩ ?_) λ_=>b _ trivial) λ_=>b _ trivial<;>dsimp only<;>rw[b7 M M]<;>omega
 .obtain ⟨p,u⟩:=s;dsimp only;refine aw (λ_=>ad λh=>by grind) λ_=>aw (λ_=>ad λh=>by grind) λ_=>a6 (λ_=>ad λh=>by grind) λj=>a6 (λg=>ad λh=>M) λg=>ad λ_=>M
theorem tF5(ls:Z dc)(b:iY ls)(h:Hp)(d:aaK h):T (F5 N ls h) λr=>r.1=(Y,[])∨r.1=(O 0,ls)/\yP ls r.2:=by
 unfold F5;refine aB (aiy hN ls b h d) λy e=>?_;rcases e with⟨a,_⟩|⟨a,c⟩
 .exact bE (λ_=>ad (.inl rfl)) λq=>(a q).elim
 .rw[a];refine bE (λq=>(q rfl).elim) λ_=>aB (ah9 hN ls b c.kN) λz _=>aw (λ_=>ad (.inl rfl)) λ_=>ad (.inr ⟨rfl,c⟩)
def ad5:yX N Y (iQ []):=⟨λ_=>True,λ_ _ _ _ _ _ _ _=>trivial,λh a b _=>ad ⟨by show(a==b)=iQ [] a b;rfl,trivial,rfl⟩⟩
def ad6(ls:Z dc)(g:iY ls):yX N (O 0) (iQ ls):=⟨yP ls,λh k c d e f i j=>⟨by rw[d,e,j];exact c.fP,by rw[f];exact c.jU,c.kN,c.len,by rw[i];exact c.eY,c.yQ,c.named⟩,λh a b c=>ek (adH hN ls g a b h c) λr ⟨d,e,A,B,f⟩=>⟨d,e,by grind⟩⟩
theorem aiZ(n:Nd)(a:ra n):F15 N n=O n:=by unfold F15;have b:=a.bd;have c:=a.aD;have d:=a.bK;rw[cq M M,cq M M,cq M M];rfl
theorem tF6(m:gB)(o:m.aj.length<=1048576)(e:∀n∈m.aj,ra n):T (F6 N m) λr=>r=m:=by
 unfold F6;refine aS (λs=>s.1=(m.next,m.aj)) (λJ f=>?_) ?_
 .refine bl (λs=>0<=s.1.1/\s.1.1<=m.aj.length/\s.1.2.1=m.next/\s.1.2.2=m.aj.take s.1.1.toNat) (λs=>(m.aj.length-s.1.1).toNat) ⟨aH,aH,rfl,aH⟩ (by grind) ?_;rintro t ⟨⟨p,q,l⟩,u⟩ ⟨a,g,b,c⟩ h;dsimp only at a g b c⊢;subst b c;refine a6 (λd=>aL a d λx i j=>?_) λd=>f _ ?_
  .rw[aiZ hN x (e x i),aE];have v:(m.aj.take p.toNat).length=p.toNat:=by grind
   refine bO (cq (by grind) (by grind)) (h _ ⟨?_,?_,rfl,?_⟩ ?_);all_goals try(dsimp only;rw[b7 M M])
   grind
   grind
   .rw[(M:(p+1).toNat=p.toNat+1),px,j];rfl
   grind
  grind [de]
 .rintro ⟨⟨q,l⟩,u⟩ k;cases k;exact ad rfl
theorem tF7(l:Z cY)(m:l.length<=1048576)(e:∀n∈l,n.aD.length<=1048576):T (F7 N (oF.mk l)) λr=>r=oF.mk l:=by
 unfold F7;refine aS (λs=>s.1=l) (λJ f=>?_) ?_
 .refine bl (λs=>0<=s.1.1/\s.1.1<=l.length/\s.1.2=l.take s.1.1.toNat) (λs=>(l.length-s.1.1).toNat) ⟨aH,aH,aH⟩ (by grind) ?_;rintro o ⟨⟨p,a⟩,u⟩ ⟨b,g,c⟩ h;dsimp only at b g c⊢;subst c;refine a6 (λd=>aL b d λx i j=>?_) λd=>f _ ?_
  .have t:=e x i;have v:(l.take p.toNat).length=p.toNat:=by grind
   refine bO (cq M M) (bO (cq (by grind) (by grind)) (h _ ⟨?_,?_,?_⟩ ?_));all_goals try(dsimp only;rw[b7 M M])
   grind
   grind
   .rw[(M:(p+1).toNat=p.toNat+1),px,j];rfl
   grind
  grind [de]
 .rintro ⟨q,u⟩ k;cases k;exact ad rfl
theorem ai0(n:Nd)(b:ra n):T (F27 N (n,n)) λr=>r=W:=by
 unfold F27;simp only[kn,fQ,aX,lD];have k:=b.bd;have g:=b.aD;have l:=b.bK;refine aS (λ_=>True) (λJ c=>?_) λ_ _=>aS (λ_=>True) (λJ c=>?_) λ_ _=>aB (ad4 hN n.aD g) λy h=>ad h
 .refine bl (λs=>0<=s.1/\s.1<=n.bd.length) (λs=>(n.bd.length-s.1).toNat) ⟨aH,aH⟩ (by grind) ?_;rintro i ⟨p,u⟩ ⟨a,d⟩ j;dsimp only at a d⊢;refine a6 (λe=>?_) λ_=>c _ trivial;obtain⟨x,f,_,_⟩:=dJ a e;simp only[f,aE,kn,fQ,aX,Bool.and_self]
  grind [b7]
 .refine bl (λs=>0<=s.1/\s.1<=n.bK.length) (λs=>(n.bK.length-s.1).toNat) ⟨aH,aH⟩ (by grind) ?_;rintro i ⟨p,u⟩ ⟨a,d⟩ j;dsimp only at a d⊢;refine a6 (λe=>?_) λ_=>c _ trivial;obtain⟨x,f,_,_⟩:=dJ a e;simp only[f,aE,kn,fQ,aX,Bool.and_self]
  grind [b7]
theorem ai1(m:gB)(i:m.aj.length<=1048576)(b:∀n∈m.aj,ra n):T (F11 N (m,m)) λr=>r=W:=by
 unfold F11;simp only[kn,fQ,aX];refine aS (λ_=>True) (λJ c=>?_) λ_ _=>ad rfl;refine bl (λs=>0<=s.1/\s.1<=m.aj.length) (λs=>(m.aj.length-s.1).toNat) ⟨aH,aH⟩ (by grind) ?_;rintro j ⟨p,u⟩ ⟨a,d⟩ k;dsimp only at a d⊢;refine a6 (λe=>?_) λ_=>c _ trivial;obtain⟨x,f,g,_⟩:=dJ a e;simp only[f,aE];refine aB (ai0 hN x (b x g)) λy h=>?_;subst h;simp only[fQ,aX]
 grind [b7]
theorem ai2(l:Z cY)(m:l.length<=1048576)(d:∀n∈l,n.aD.length<=1048576):T (F12 N (oF.mk l,oF.mk l)) λr=>r=W:=by
 unfold F12;simp only[kn,fQ,aX];refine aS (λ_=>True) (λJ e=>?_) λ_ _=>ad rfl;refine bl (λs=>0<=s.1/\s.1<=l.length) (λs=>(l.length-s.1).toNat) ⟨aH,aH⟩ (by grind) ?_;rintro o ⟨p,u⟩ ⟨b,f⟩ q;dsimp only at b f⊢;refine a6 (λa=>?_) λ_=>e _ trivial;refine aS (λ_=>True) (λt g=>?_) λ_ _=>?_
 .obtain ⟨x,h,i,_⟩:=dJ b a;have v:=d x i;simp only[h,aE,kn,fQ,aX];refine bl (λs=>0<=s.1/\s.1<=x.aD.length) (λs=>(x.aD.length-s.1).toNat) ⟨aH,aH⟩ (by grind) ?_;rintro w ⟨y,A⟩ ⟨c,j⟩ B;dsimp only at c j⊢;refine a6 (λa=>?_) λ_=>g _ trivial;obtain⟨z,k,_,_⟩:=dJ c a;simp only[k,aE,kn,fQ,aX]
  grind [b7]
 grind [b7]
end
def Lo(G:Gd)(bj:Int):dw×Int×Int:=match La G G.E.length 0 [] bj with
 |.ka e=>(v0,0,e)|.ok v l=>(v.v,bj-l,0)
def Ra(G:Gd)(bj:Int):dw×Int×Int:=
 if dE G.m=W then if qi G.E=0 then if G.self≠0/\cE G.m G.self=Y then(v0,0,2)else if bj<0∨1048576<bj then(v0,0,2)else Lo G bj
 else(v0,0,qi G.E)else(v0,0,29)
theorem aa8{β:bP->bP->aa}(a:∀n∈m.aj,ra n/\∀p∈n.bd,p.value.length<=1048576)(e:m.aj.length<=60)(d:∀n∈E,n.text.length<=1048576/\n.aD.length<=1048576/\KT n.int)(f:dE m=W):tx ⟨E,m,self,β⟩:=
 have g:nn m:=⟨M,λn b=>(a n b).1⟩
 ⟨mP g f,e,λx c=>⟨(a x c).1.au,(a x c).2,(a x c).1.aD⟩,λx c=>by grind [Iz,AS,gr],λn b=>⟨(d n b).1,(d n b).2.2⟩⟩
def X7(a:tx G)(h0:0<=bj):(Lo G bj).1.bk.length<=1048576:=by
 unfold Lo;have:=DW a G.E.length 0 [] bj h0;cases h:La G G.E.length 0 [] bj with
 |ka e=>simp[v0]|ok v l=>
  rw[h]at this;have hv:=this.1;cases v with
  |vl l=>exact hv|_=>simp[Va.v]
theorem Rb(l:Z Nd)(p:Nat)(x:Nd)(h:l[p]?=O x):IB (l.take (p+1))=fV dp (IB (l.take p)) x.iD x:=by grind [IB,List.take_add_one]
section
variable{N:Nat}(hN:1073741824<=N)
include hN
theorem ad7(B:yX N t G.β)(k:tx G)(u:nn G.m)(w:dE G.m=W)(z:1<=G.E.length/\G.E.length<=256/\WfE G.E)(h0:0<=bj)(A:bj<=1048576)(h:Hp)(C:B.ok h):
  T (Vd N t G.m ⟨G.E⟩ G.self bj h) λy=>y.1=Lo G bj:=by
 unfold Vd;refine iv λb m=>iv λQ n=>?_;have R:=k.Gi;refine bl (λs=>0<=s.1/\s.1<=G.m.aj.length/\B.ok s.2/\s.2.sY[b.sY.length]?=O ⟨t,G.m,⟨G.E⟩,O h.vy.length,G.self,bj,bj-bj⟩/\s.2.vy[h.vy.length]?=O (IB (G.m.aj.take s.1.toNat))) (λs=>(G.m.aj.length-s.1).toNat) ⟨aH,aH,?_,?_,?_⟩ (by grind) ?_
 .subst n m;exact B.eP h _ C rfl rfl rfl rfl rfl
 grind
 .subst n m;simp[IB]
 rintro S ⟨p,c⟩ ⟨o,D,f,d,g⟩ E;dsimp only at o D f d g⊢;refine a6 (λq=>aL o q λx U H=>?_) λq=>?_
 .simp only[aE,d,g];refine iv λX I=>E _ ?_ ?_
  .have J:h.vy.length<c.vy.length:=(cr.1 g).1;dsimp only;rw[b7 M M];subst I;refine⟨M,M,B.eP c _ f rfl rfl rfl rfl rfl,d,?_⟩;dsimp only;rw[tG J,(M:(p+1).toNat=p.toNat+1),Rb _ _ x H]
  grind [b7]
 .have K:PR B b.sY.length h.vy.length bj c bj:=⟨f,d,by grind [de]⟩
  have:=aiL hN k u w A z.2.2 G.E.length N 0 (λ_ h=>O ((0,F),h)) [] c bj M M M XN h0 (gY _) K;refine aB this λy a=>?_;unfold Lo;cases r:La G G.E.length 0 [] bj with
  |ka e=>have j:La G G.E.length ((0:Nat):Int) [] bj=.ka e:=r;rw[j]at a;have a:y.1=.error ⟨e⟩:=a;rw[a];exact ad rfl|ok v l=>
   have j:La G G.E.length ((0:Nat):Int) [] bj=.ok v l:=r;rw[j]at a;obtain⟨L,P⟩:=(a:y.1=.ok v.v/\PR B b.sY.length h.vy.length bj y.2 l)
   rw[L];show T ((O b.sY.length).bind λi=>(y.2.sY[i]?).bind λe=>O ((v.v,e.Kv,0),y.2)) _;rw[aE,P.run,aE];exact ad rfl
theorem tF8(B:yX N t G.β)(g:∀n∈G.m.aj,ra n/\∀p∈n.bd,p.value.length<=1048576)(m:G.m.aj.length<=60)(f:∀n∈G.E,n.text.length<=1048576/\n.aD.length<=1048576/\KT n.int)(o:KT G.self)(bj:Int)(h:Hp)(r:B.ok h):
  T (F8 N (t,G.m,⟨G.E⟩,G.self,bj) h) λy=>y.1=Ra G bj:=by
 have i:nn G.m:=⟨M,λn c=>(g n c).1⟩
 unfold F8 Ra;dsimp only;refine aB (aaR hN G.m i) λy d=>?_;by_cases e:dE G.m=W
 .rw[aq e]at d⊢;subst d;refine bE (λq=>(q rfl).elim) λ_=>aB (ahX hN ⟨G.E⟩ λn c=>⟨(f n c).1,(f n c).2.1⟩) λz j=>?_;dsimp only at j;subst j;refine bE (λq=>ad (by rw[ao q];rfl)) λq=>?_;rw[aq q];refine aB (aiC hN G.m i G.self o) λw k=>?_;have s:tx G:=aa8 (E:=G.E) (self:=G.self) (β:=G.β) g m f e;have l:G.self=0∨(∃x,cE G.m G.self=O x)->T (bif bj<0 then O ((dw.mk 0 0 [] F 0 [],(0:Int),(2:Int)),h)else bif 1048576<bj then O ((dw.mk 0 0 [] F 0 [],0,2),h)else Vd N t G.m ⟨G.E⟩ G.self bj h) λy=>y.1=(if G.self≠0/\cE G.m G.self=Y then(v0,0,2)else if bj<0∨1048576<bj then(v0,0,2)else Lo G bj):=λu=>by
   rw[ao (by grind)];refine a6 (λa=>ad (by rw[aq (.inl a)];rfl)) λa=>a6 (λb=>ad (by rw[aq (.inr b)];rfl)) λb=>?_;rw[ao M]
   grind [ad7,Lg]
  refine bE (λa=>cj (λb=>ad ?_) λb=>l ?_) λa=>l (.inl a)
  .rw[k]at b;unfold Gg at b;rw[aq e]at b;cases c:cE G.m G.self with
   |none=>rw[aq ⟨a,rfl⟩];rfl|some x=>grind
  .rw[k]at b;unfold Gg at b
   grind
 .rw[ao e]at d⊢;subst d;exact bE (λ_=>ad rfl) λq=>by grind
theorem tF9(L:iY ls)(P:∀a b,G.β a b=iQ ls a b)(D:∀n∈G.m.aj,ra n/\∀p∈n.bd,p.value.length<=1048576)(Q:G.m.aj.length<=60)(s:∀n∈G.E,n.text.length<=1048576/\n.aD.length<=1048576/\KT n.int)(bj:Int)(h:Hp):
  T (F9 N (ls,G.m,⟨G.E⟩,G.self,bj) h) λy=>y.1=Ra G bj:=by
 have H:nn G.m:=⟨M,λn j=>(D n j).1⟩
 unfold F9 Ra;dsimp only;refine aB (aaT hN G.m H) λy f=>?_;subst f;refine cj (λk=>ad (by rw[ao (by grind)];rfl)) λk=>?_;rw[aq k];refine aB (aiM hN ⟨G.E⟩ λn j=>⟨(s n j).1,(s n j).2.1⟩) λz I=>?_;dsimp only at I;subst I;refine bE (λq=>ad (by rw[ao q];rfl)) λq=>?_;rw[aq q];have m:tx G:=aa8 (E:=G.E) (self:=G.self) (β:=G.β) D Q s k;have R:=Lg q;refine a6 (λa=>ad ?_) λa=>a6 (λb=>ad ?_) λb=>?_
 .rw[aq (.inl a:bj<0∨1048576<bj)];simp[v0]
 .rw[aq (.inr b:bj<0∨1048576<bj)];simp[v0]
 have S:G.self=0∨(∃x,cE G.m G.self=O x)->T (cw {h with nY:=h.nY++[fv.mk ls G.m ⟨G.E⟩ G.self bj]} λo=>(F25 N (O h.nY.length,0,[]) o).bind λg=>
   bif !(g.1.2==0)then O ((dw.mk 0 0 [] F 0 [],(0:Int),g.1.2),g.2)else(O h.nY.length).bind λU=>(g.2.nY[U]?).bind λX=>O ((g.1.1,IntKind.i64.wrap (bj-X.left),(0:Int)),g.2))
   λy=>y.1=(if G.self≠0/\cE G.m G.self=Y then(v0,0,2)else if bj<0∨1048576<bj then(v0,0,2)else Lo G bj):=λb0=>by
  rw[ao (by grind),ao M];refine iv λo a0=>?_;have t:WR ls G h.nY.length o bj:=by subst a0;unfold WR;simp
  have J:=DW m G.E.length 0 [] bj a;refine aB (aiU hN L P m H k R.2.2 G.E.length N 0 [] o bj M M M (by grind) a b t) λy f=>?_;unfold Lo;cases u:La G G.E.length 0 [] bj with
  |ka e=>
   have A:La G G.E.length ((0:Nat):Int) [] bj=.ka e:=u;rw[A]at f;obtain⟨r,B⟩:=(f:y.1.2=e/\e≠0)
   refine bE (λ_=>ad (by rw[r];rfl)) λc=>(B (r▸c)).elim
  |ok v l=>
   have A:La G G.E.length ((0:Nat):Int) [] bj=.ok v l:=u;rw[A]at f;rw[u]at J;obtain⟨r,B,C⟩:=(f:y.1.1=v.v/\y.1.2=0/\WR ls G h.nY.length y.2 l)
   refine bE (λc=>(c B).elim) λ_=>?_;have C:y.2.nY[h.nY.length]?=O ⟨ls,G.m,⟨G.E⟩,G.self,l⟩:=C;rw[aE,C,aE,r];have:=J.2
   grind [ad,b7]
 refine bE (λc=>?_) λc=>S (.inl c);refine aB (DZ hN G.m m.ready.sorted M G.self) λw t=>?_;subst t;rcases tg m.ready.sorted G.self with⟨K,c2⟩|⟨x,K,i,c2,_⟩
 .refine a6 (λ_=>ad ?_) λd=>M;rw[aq ⟨c,K⟩];rfl
 grind
theorem ai3(hi:In3 ls m E self bj)(h:Hp)(w:aaK h):T (F3 N (Wi.mk ls m self bj,oF.mk E) h) λr=>r.1=W:=by
 unfold F3;dsimp only;refine aB (tF4 hN _ hi.X6.len) λy x=>?_;refine aw (λ_=>ad rfl) λi=>?_;have j:m.aj.length<=60:=x i;refine a6 (λ_=>ad rfl) λ_=>?_;refine aB (tF5 hN ls hi.X6 h w) λl z=>?_;have o:∀n∈m.aj,ra n:=λn f=>(hi.node n f).1;refine aB (tF6 hN m hi.aj o) λa A=>?_;subst A;refine aB (tF7 hN E hi.len λn f=>(hi.en n f).2.1) λP C=>?_;subst C;have p:∀(t:V Nat)(c:Z dc)(q:iY c)(B:yX N t (iQ c))(g:Hp),B.ok g->T ((F8 N (t,a,oF.mk E,self,bj) g).bind λd=>
   (F9 N (c,a,oF.mk E,self,bj) d.2).bind λb=>
   (O7 N (d.1.1,b.1.1)).bind λs=>
   bif s then
    bif d.1.2.1==b.1.2.1 then
     bif d.1.2.2==b.1.2.2 then
      (F11 N (a,a)).bind λu=>
      bif u then
       (F12 N (oF.mk E,oF.mk E)).bind λv=>
       O (v,b.2)
      else O (F,b.2)
     else O (F,b.2)
    else O (F,b.2)
   else O (F,b.2)) λr=>r.1=W:=λt c q B g D=>by
  refine aB (tF8 hN (G:=⟨E,a,self,iQ c⟩) B hi.node j hi.en hi.aiX bj g D) λd H=>?_;refine aB (tF9 hN q (G:=⟨E,a,self,iQ c⟩) (λ_ _=>rfl) hi.node j hi.en bj d.2) λb I=>?_;rw[H,I];have hv:(Ra ⟨E,a,self,iQ c⟩ bj).1.bk.length<=1048576:=by
   unfold Ra;dsimp only;by_cases k:dE a=W
   .rw[aq k];split
    .split
     .simp[v0]
     .split
      .simp[v0]
      .exact X7 (aa8 hi.node j hi.en k) M
    .simp[v0]
   .rw[ao k];simp[v0]
  refine aB (aiY hN _ hv) λs J=>?_;subst J;simp only[kn,aW];refine aB (ai1 hN a hi.aj o) λu K=>?_;subst K;simp only[aW];exact aB (ai2 hN E hi.len λn f=>(hi.en n f).2.1) λv L=>ad L
 rcases z with e|⟨e,i⟩
 .rw[e];exact p Y [] ⟨aH,aH⟩ ad5 l.2 trivial
 .rw[e];exact p (O 0) ls hi.X6 (ad6 hN ls hi.X6) l.2 i
end
theorem IM{n:Int}(c:IntKind.i64.min<=n)(d:n<=IntKind.i64.max):KT n:=by
 have a:IntKind.i64.min=-9223372036854775808:=b9;have b:IntKind.i64.max=9223372036854775807:=b9
 grind
theorem Py{α:Type}{f:α->AV}{p:α->Prop}:∀{xs:Z AV},(∀x∈xs,∃y,x=f y/\p y)->∃l:Z α,xs=l.map f/\(∀y∈l,p y)
 |[],_=>⟨[],rfl,λy b=>by cases b⟩
 |x::xs,h=>by obtain⟨y,rfl,c⟩:=h x aH;obtain⟨l,rfl,d⟩:=Py (xs:=xs) λz a=>h z (by simp[a]);exact⟨y::l,rfl,λz a=>by grind⟩
mutual
theorem xo{K:Nat}:∀{s:Ev.Sh}{x:AV},s.iy K x->x.zN=W
 |.bool,x,h=>by obtain ⟨b,rfl⟩:=h;rfl|.int k,x,h=>by obtain ⟨n,rfl,_⟩:=h;rfl
 |.string,x,h=>by obtain ⟨l,rfl,_⟩:=h;rfl|.slice e,x,h=>by obtain⟨xs,rfl,_,h⟩:=h;show sk xs=W;exact pk λy a=>xo (h y a)
 |.struct fs,x,h=>by obtain⟨cs,rfl,h⟩:=h;show sk cs=W;exact pk (Gu h)
theorem Gu{K:Nat}:∀{fs:Ev.xt}{cs:Z AV},fs.iy K cs->∀c∈cs,c.zN=W
 |.nil,cs,h,c,a=>by rw[show cs=[]from h]at a;cases a
 |.cons s r,cs,h,c,a=>by
  obtain⟨x,ds,b,d,rfl⟩:=h;rcases fK.1 a with a|a
  .exact yz (xo b) c a
  .exact Gu d c a
end
def iR{n:Nat}{y:CC n}{cs:Z AV}(h:cs=jZ TT (UF n) (UU n y)):AV.agg cs=enc TT (.struct n) y:=by show AV.agg _=AV.agg (TT.cl n _);rw[TJ,h]
theorem EM{α:Type}{f:α->AV}{p:α->Prop}{x:AV}{q:AV->Prop}(h:∃xs,x=.sl xs/\xs.length<=1048576/\∀y∈xs,q y)(g:∀{y},q y->∃z,y=f z/\p z):∃l:Z α,x=.sl (l.map f)/\l.length<=1048576/\∀z∈l,p z:=by
 obtain⟨xs,rfl,c,a⟩:=h;obtain⟨l,rfl,d⟩:=Py λy b=>g (a y b)
 grind
def ad9{x:AV}(h:Ev.Sh.string.iy 1048576 x):∃y:X.bP,x=enc TT .str y/\y.length<=1048576:=by obtain⟨s,rfl,h⟩:=h;exact⟨s,rfl,h⟩
def Vn{x:AV}(h:(Ev.Sh.int .i64).iy 1048576 x):∃y:Int,x=enc TT (.int .i64) y/\KT y:=by obtain⟨n,rfl,a,b⟩:=h;exact⟨n,rfl,IM a b⟩
def Nz:Ev.Sh:=.struct (.cons (.int .i64) (.cons .string (.cons (.int .i64) (.cons (.slice (.int .i64)) .nil))))
def Vo{x:AV}(h:Nz.iy 1048576 x):∃y:l7,x=enc TT (.struct 1) y/\(u6 y):=by obtain⟨cs,rfl,a0,d0,⟨v0,rfl,h0,e⟩,⟨f,d1,⟨v1,rfl,a⟩,⟨g,d2,⟨v2,rfl,i,j⟩,⟨k,d3,b,rfl,rfl⟩,rfl⟩,rfl⟩,rfl⟩:=h;obtain⟨c,rfl,d,l⟩:=EM b Vn;exact⟨⟨v0,v1,v2,c⟩,iR rfl,⟨a,d⟩⟩
def Gv:Ev.Sh:=.struct (.cons .string (.cons (.int .i64) .nil))
def Rh{x:AV}(h:Gv.iy 1048576 x):∃y:fO,x=enc TT (.struct 12) y/\(y.name.length<=1048576):=by obtain⟨cs,rfl,a0,d0,⟨v0,rfl,h0⟩,⟨b,d1,⟨a,rfl,c,d⟩,rfl,rfl⟩,rfl⟩:=h;exact⟨⟨v0,a⟩,iR rfl,h0⟩
def Lq:Ev.Sh:=.struct (.cons .string (.cons .string (.cons (.int .i64) (.cons (.int .i64) .nil))))
def Vp{x:AV}(h:Lq.iy 1048576 x):∃y:hZ,x=enc TT (.struct 13) y/\(y.role.length<=1048576/\y.au.length<=1048576):=by obtain⟨cs,rfl,a0,d0,⟨v0,rfl,h0⟩,⟨c,d1,⟨v1,rfl,a⟩,⟨d,d2,⟨v2,rfl,e,f⟩,⟨g,d3,⟨b,rfl,i,j⟩,rfl,rfl⟩,rfl⟩,rfl⟩,rfl⟩:=h;exact⟨⟨v0,v1,v2,b⟩,iR rfl,⟨h0,a⟩⟩
def Lr:Ev.Sh:=.struct (.cons .string (.cons .string (.cons .bool .nil)))
def Vq{x:AV}(h:Lr.iy 1048576 x):∃y:gR,x=enc TT (.struct 14) y/\(y.role.length<=1048576/\y.au.length<=1048576):=by obtain⟨cs,rfl,a0,d0,⟨v0,rfl,h0⟩,⟨c,d1,⟨v1,rfl,a⟩,⟨d,d2,⟨b,rfl⟩,rfl,rfl⟩,rfl⟩,rfl⟩:=h;exact⟨⟨v0,v1,b⟩,iR rfl,⟨h0,a⟩⟩
def Y1:Ev.Sh:=.struct (.cons .string (.cons .string (.cons .bool (.cons (.slice Gv) (.cons (.slice Lq) (.cons (.slice Lr) .nil))))))
def aea{x:AV}(h:Y1.iy 1048576 x):∃y:dQ,x=enc TT (.struct 15) y/\(rp y):=by obtain⟨cs,rfl,a0,d0,⟨v0,rfl,h0⟩,⟨n,d1,⟨v1,rfl,d⟩,⟨o,d2,⟨v2,rfl⟩,⟨q,d3,e,⟨r,d4,f,⟨s,d5,g,rfl,rfl⟩,rfl⟩,rfl⟩,rfl⟩,rfl⟩,rfl⟩:=h;obtain⟨v3,rfl,i,j⟩:=EM e Rh;obtain⟨v4,rfl,k,b⟩:=EM f Vp;obtain⟨l,rfl,m,c⟩:=EM g Vq;exact⟨⟨v0,v1,v2,v3,v4,l⟩,iR rfl,⟨h0,d,i,j,k,λp a=>(b p a).1,λp a=>(b p a).2,m,λp a=>(c p a).1,λp a=>(c p a).2⟩⟩
def Vr:Ev.Sh:=.struct (.cons (.int .i64) (.cons .string (.cons .string .nil)))
def abb{x:AV}(h:Vr.iy 1048576 x):∃y:Cell,x=enc TT (.struct 16) y/\(True):=by obtain⟨cs,rfl,a0,d0,⟨v0,rfl,h0,b⟩,⟨c,d1,⟨v1,rfl,d⟩,⟨e,d2,⟨a,rfl,f⟩,rfl,rfl⟩,rfl⟩,rfl⟩:=h;exact⟨⟨v0,v1,a⟩,iR rfl,trivial⟩
def Pz:Ev.Sh:=.struct (.cons (.int .i64) (.cons .string (.cons .string .nil)))
def Ya{x:AV}(h:Pz.iy 1048576 x):∃y:w7,x=enc TT (.struct 17) y/\(True):=by obtain⟨cs,rfl,a0,d0,⟨v0,rfl,h0,b⟩,⟨c,d1,⟨v1,rfl,d⟩,⟨e,d2,⟨a,rfl,f⟩,rfl,rfl⟩,rfl⟩,rfl⟩:=h;exact⟨⟨v0,v1,a⟩,iR rfl,trivial⟩
def Y2:Ev.Sh:=.struct (.cons .string (.cons .string (.cons .bool (.cons .string .nil))))
def aeb{x:AV}(h:Y2.iy 1048576 x):∃y:rz,x=enc TT (.struct 25) y/\(y.au.length<=1048576/\y.name.length<=1048576):=by obtain⟨cs,rfl,a0,d0,⟨v0,rfl,h0⟩,⟨c,d1,⟨v1,rfl,a⟩,⟨d,d2,⟨v2,rfl⟩,⟨e,d3,⟨b,rfl,f⟩,rfl,rfl⟩,rfl⟩,rfl⟩,rfl⟩:=h;exact⟨⟨v0,v1,v2,b⟩,iR rfl,⟨h0,a⟩⟩
def Eh:Ev.Sh:=.struct (.cons .string (.cons (.slice Nz) (.cons (.slice Nz) .nil)))
def NA{x:AV}(h:Eh.iy 1048576 x):∃y:dA,x=enc TT (.struct 26) y/\(QL y):=by obtain⟨cs,rfl,a0,d0,⟨v0,rfl,h0⟩,⟨e,d1,s1,⟨f,d2,s2,rfl,rfl⟩,rfl⟩,rfl⟩:=h;obtain⟨v1,rfl,a,q1⟩:=EM s1 Vo;obtain⟨b,rfl,c,d⟩:=EM s2 Vo;exact⟨⟨v0,v1,b⟩,iR rfl,⟨h0,a,q1,c,d⟩⟩
def Ls:Ev.Sh:=.struct (.cons .string (.cons (.slice Vr) .nil))
def Vs{x:AV}(h:Ls.iy 1048576 x):∃y:eV,x=enc TT (.struct 27) y/\(y.au.length<=1048576/\y.cells.length<=1048576):=by obtain⟨cs,rfl,a0,d0,⟨v0,rfl,h0⟩,⟨c,d1,s1,rfl,rfl⟩,rfl⟩:=h;obtain⟨a,rfl,b,q1⟩:=EM s1 abb;exact⟨⟨v0,a⟩,iR rfl,⟨h0,b⟩⟩
def Ei:Ev.Sh:=.struct (.cons .string (.cons (.slice Pz) .nil))
def NB{x:AV}(h:Ei.iy 1048576 x):∃y:cR,x=enc TT (.struct 28) y/\(y.au.length<=1048576/\y.eU.length<=1048576):=by obtain⟨cs,rfl,a0,d0,⟨v0,rfl,h0⟩,⟨c,d1,s1,rfl,rfl⟩,rfl⟩:=h;obtain⟨a,rfl,b,q1⟩:=EM s1 Ya;exact⟨⟨v0,a⟩,iR rfl,⟨h0,b⟩⟩
def Y3:Ev.Sh:=.struct (.cons .string (.cons (.int .i64) (.cons (.slice .string) (.cons (.slice Y1) (.cons (.slice Y2) (.cons (.slice Eh) (.cons (.slice Ls) (.cons (.slice Ei) .nil))))))))
def aec{x:AV}(h:Y3.iy 1048576 x):∃y:dc,x=enc TT (.struct 29) y/\(oG y):=by obtain⟨cs,rfl,a0,d0,⟨v0,rfl,h0⟩,⟨z,d1,⟨v1,rfl,A,B⟩,⟨C,d2,s2,⟨D,d3,g,⟨E,d4,i,⟨G,d5,j,⟨H,d6,k,⟨I,d7,l,rfl,rfl⟩,rfl⟩,rfl⟩,rfl⟩,rfl⟩,rfl⟩,rfl⟩,rfl⟩:=h;obtain⟨v2,rfl,m,n⟩:=EM s2 ad9;obtain⟨v3,rfl,o,p⟩:=EM g aea;obtain⟨v4,rfl,q,c⟩:=EM i aeb;obtain⟨v5,rfl,s,t⟩:=EM j NA;obtain⟨v6,rfl,u,e⟩:=EM k Vs;obtain⟨v,rfl,w,f⟩:=EM l NB;exact⟨⟨v0,v1,v2,v3,v4,v5,v6,v⟩,iR rfl,⟨h0,m,n,o,p,q,λr b=>(c r b).1,λr b=>(c r b).2,s,t,u,λd a=>(e d a).1,λd a=>(e d a).2,w,λd a=>(f d a).1,λd a=>(f d a).2⟩⟩
def Y4:Ev.Sh:=.struct (.cons .string (.cons .string .nil))
def aed{x:AV}(h:Y4.iy 1048576 x):∃y:Ku,x=enc TT (.struct 19) y/\(y.name.length<=1048576/\y.value.length<=1048576):=by obtain⟨cs,rfl,a0,d0,⟨v0,rfl,h0⟩,⟨c,d1,⟨a,rfl,b⟩,rfl,rfl⟩,rfl⟩:=h;exact⟨⟨v0,a⟩,iR rfl,⟨h0,b⟩⟩
def aee:Ev.Sh:=.struct (.cons .string (.cons (.int .i64) .nil))
def ai5{x:AV}(h:aee.iy 1048576 x):∃y:Rf,x=enc TT (.struct 20) y/\(y.role.length<=1048576):=by obtain⟨cs,rfl,a0,d0,⟨v0,rfl,h0⟩,⟨b,d1,⟨a,rfl,c,d⟩,rfl,rfl⟩,rfl⟩:=h;exact⟨⟨v0,a⟩,iR rfl,h0⟩
def aef:Ev.Sh:=.struct (.cons (.int .i64) (.cons .string (.cons (.int .i64) (.cons .string (.cons (.slice Y4) (.cons (.slice (.int .i64)) (.cons (.slice aee) .nil)))))))
def ai6{x:AV}(h:aef.iy 1048576 x):∃y:Nd,x=enc TT (.struct 21) y/\(ra y/\∀p∈y.bd,p.value.length<=1048576):=by obtain⟨cs,rfl,a0,d0,⟨v0,rfl,h0,r⟩,⟨s,d1,⟨v1,rfl,c⟩,⟨t,d2,⟨v2,rfl,d,e⟩,⟨u,d3,⟨v3,rfl,f⟩,⟨v,d4,g,⟨w,d5,i,⟨z,d6,j,rfl,rfl⟩,rfl⟩,rfl⟩,rfl⟩,rfl⟩,rfl⟩,rfl⟩:=h;obtain⟨v4,rfl,k,b⟩:=EM g aed;obtain⟨v5,rfl,l,m⟩:=EM i Vn;obtain⟨n,rfl,o,q⟩:=EM j ai5;exact⟨⟨v0,v1,v2,v3,v4,v5,n⟩,iR rfl,⟨⟨c,f,k,λp a=>(b p a).1,l,m,o,q,IM d e⟩,λp a=>(b p a).2⟩⟩
def Y5:Ev.Sh:=.struct (.cons (.int .i64) (.cons (.slice aef) .nil))
def aeg{x:AV}(h:Y5.iy 1048576 x):∃y:gB,x=enc TT (.struct 22) y/\(y.aj.length<=1048576/\∀n∈y.aj,ra n/\∀p∈n.bd,p.value.length<=1048576):=by obtain⟨cs,rfl,a0,d0,⟨v0,rfl,h0,c⟩,⟨d,d1,s1,rfl,rfl⟩,rfl⟩:=h;obtain⟨a,rfl,b,q1⟩:=EM s1 ai6;exact⟨⟨v0,a⟩,iR rfl,b,q1⟩
def Y6:Ev.Sh:=.struct (.cons (.slice Y3) (.cons Y5 (.cons (.int .i64) (.cons (.int .i64) .nil))))
def aeh{x:AV}(h:Y6.iy 1048576 x):∃y:Wi,x=enc TT (.struct 30) y/\(∀c:Z cY,c.length<=1048576->(∀n∈c,n.text.length<=1048576/\n.aD.length<=1048576/\KT n.int)->In3 y.ls y.m c y.self y.bj):=by obtain⟨cs,rfl,a0,d0,d,⟨k,d1,s1,⟨l,d2,⟨v2,rfl,e,f⟩,⟨m,d3,⟨g,rfl,o,p⟩,rfl,rfl⟩,rfl⟩,rfl⟩,rfl⟩:=h;obtain⟨v0,rfl,h0,i⟩:=EM d aec;obtain⟨v1,rfl,j,q1⟩:=aeg s1;exact⟨⟨v0,v1,v2,g⟩,iR rfl,λc a b=>⟨⟨h0,i⟩,j,q1,a,b,IM e f⟩⟩
def PA:Ev.Sh:=.struct (.cons (.int .i64) (.cons .string (.cons (.int .i64) (.cons (.slice (.int .i64)) .nil))))
def Yb{x:AV}(h:PA.iy 1048576 x):∃y:cY,x=enc TT (.struct 23) y/\(y.text.length<=1048576/\y.aD.length<=1048576/\KT y.int):=by obtain⟨cs,rfl,a0,d0,⟨v0,rfl,h0,g⟩,⟨i,d1,⟨v1,rfl,a⟩,⟨j,d2,⟨v2,rfl,b,c⟩,⟨k,d3,d,rfl,rfl⟩,rfl⟩,rfl⟩,rfl⟩:=h;obtain⟨e,rfl,f,_⟩:=EM d Vn;exact⟨⟨v0,v1,v2,e⟩,iR rfl,⟨a,f,IM b c⟩⟩
def Y7:Ev.Sh:=.struct (.cons (.slice PA) .nil)
def aei{x:AV}(h:Y7.iy 1048576 x):∃y:oF,x=enc TT (.struct 24) y/\(y.aj.length<=1048576/\∀n∈y.aj,n.text.length<=1048576/\n.aD.length<=1048576/\KT n.int):=by obtain⟨cs,rfl,a0,d0,a,rfl,rfl⟩:=h;obtain⟨v0,rfl,h0,b⟩:=EM a Yb;exact⟨⟨v0⟩,iR rfl,⟨h0,b⟩⟩
def PB:Z Ev.Sh:=[Y6,Y7]
def aej{e:af}(n:rl e)(xs:Z AV)(h:Aa 1048576 PB xs):tq Tryz.prog (EL e) 3 xs (.ret [.v (.fl (.bool W))]):=by
 obtain⟨a,C,rfl,f,o⟩:=vw h;obtain⟨b,D,rfl,g,p⟩:=vw o;obtain rfl:=Gt p;have q:∀z∈[a,b],z.zN=W:=by
  intro x j;simp only[fb,List.not_mem_nil,or_false]at j;rcases j with rfl|rfl
  .exact xo f
  .exact xo g
 obtain⟨w,rfl,s⟩:=aeh f;obtain⟨c,rfl,l⟩:=aei g;obtain⟨N,hN⟩:∃N:Nat,1073741824<=N:=⟨_,bq _⟩
 obtain⟨ls,m,t,u⟩:=w;obtain⟨c⟩:=c;obtain⟨⟨r,v⟩,y,d⟩:=ai3 hN (s c l.1 l.2) Ig ⟨rfl,rfl,rfl,rfl,rfl,rfl,rfl,rfl,rfl⟩;have d:r=W:=d;subst d;obtain⟨E,G,_,A⟩:=(G3 N (EL e) (ad8 n)).tr (Wi.mk ls m t u,oF.mk c) Ig [_,_] W v tp (λ_=>F) ⟨_,_,rfl,⟨rfl,rfl⟩,_,_,rfl,⟨rfl,rfl⟩,rfl⟩ (λk B _ i=>by rw[Ih k B];exact ⟨rfl,rfl⟩) y;exact FW A q (λr d=>by simp only[gD]at d;subst d;rfl)
end Go.Proofs.Mo
