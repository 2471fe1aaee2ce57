import Derived.Test.YtlacgaedkjhfhaaGreatDoorZC21
set_option linter.all false
set_option maxRecDepth 20000
open Option renaming some->O,none->Y
open Bool renaming true->W,false->F
open Go.Proofs.Tryz
noncomputable section
namespace Go.Proofs.Mo
open Go Go.Ev Go.X
open Go.IntKind renaming i64->Wk
section
variable(N:Nat)
def yN(N:Nat):Int×Int×Int×Int×Int->V (V gW):=λ(a,b,c,d,e)=>O (O (gW.mk (Wk.wrap ((Wk.wrap (10*a))+b)) c d e))
abbrev K49:b7 U:=⟨[.I,.I,.I,.I,.I],[.v ahs],Y,.pure (yN N)⟩
def Ws:Holds 49 (K49 N):=gP N f49 .aC nl
def YE:(Z cW)×(cW->V tl)->V Int:=λ(b,c)=>aS (λ(_:xW×xW)=>O (-1)) λd=>aZ (λe((a,_):Int×xW)=>bif a<b.length then(aR b a).bind λf=>(c f).bind λg=>bif g then O a else e (Wk.wrap (a+1),())else d ((),())) N (0,())
abbrev afK:b7 U:=⟨[aht,(.fn ahy .bool)],[.v .I],Y,.pure (YE N)⟩
def afL:Holds 168 (afK N):=gP N f168 (.q (.J (.W [0,1,7] [(8,.val .I)]) .aC)) nl
def F51:(Z cW)×(cW->V tl)->V tl:=λ(a,b)=>(YE N (a,b)).bind λc=>O (decide (0<=c))
abbrev K51:b7 U:=⟨[aht,(.fn ahy .bool)],[.v .bool],Y,.pure (F51 N)⟩
def G51:Holds 51 (K51 N):=gP N f51 .aC (cn (afL N) nl)
def F52(N:Nat):cW×cW->V tl:=λ(a,b)=>O (a.name==b.name)
abbrev K52:b7 U:=⟨[ahy,ahO],[.v .bool],Y,.pure (F52 N)⟩
def G52:Holds 52 (K52 N):=gP N f52 .aC nl
def F29:(V Nat)×(Z cW)->V (V gW):=λ(r,a)=>bif 128<(a.length:Int)then(yN N (128,0,0,0,4)).bind λe=>O e else aS (λ(_:xW×xW)=>aS (λ(_:xW×xW)=>O Y) λf=>aZ (λg((b,_):Int×xW)=>bif b<a.length then(aR a b).bind λi=>(cR (decide (0<=b)&&decide (b.toNat<=a.length))).bind λ_=>(F51 N (a.take b.toNat,λj=>F52 N (j,i))).bind λk=>bif k then(yN N (b,0,0,0,40)).bind λl=>O l else g (Wk.wrap (b+1),())else f ((),())) N (0,())) λm=>aZ (λn((d,_):Int×xW)=>bif d<a.length then(aR a d).bind λo=>(Zi N o).bind λc=>bif !(c.gd==0)then(yN N (d,c.Wd,c.eB,c.part,c.gd)).bind λp=>O p else n (Wk.wrap (d+1),())else m ((),())) N (0,())
abbrev K29:b7 U:=⟨[ahY,aht],[.v ahs],Y,.pure (F29 N)⟩
def G29:Holds 29 (K29 N):=gP N f29 (.q (.q (.seq (O ⟨F,[1],[],[],[]⟩) (.W [1,14,15] [(16,.val .I)]) (.J (.W [1,37,38] [(39,.val .I)]) .aC)))) (cn (Ws N) (cn (G50 N) (cn (G51 N) (cn (G52 N) nl))))
def Y2:(Z cW)×(cW->V (Z dt))×((Int×Int×dt)->Hp->V ((V gW)×Hp))->Hp->V ((V gW)×Hp):=λ(d,i,j) h=>aS (λ((_,k):xW×Hp)=>O (Y,k)) λl=>aZ (λm((a,e):Int×Hp)=>bif a<d.length then aS (λ((_,n):xW×Hp)=>m (Wk.wrap (a+1),n)) λo=>(aR d a).bind λp=>(i p).bind λf=>aZ (λr((b,g):Int×Hp)=>bif b<f.length then(aR f b).bind λs=>(j (a,b,s) g).bind λc=>bif !c.1.isNone then O (c.1,c.2)else r (Wk.wrap (b+1),c.2)else o ((),g)) N (0,e)else l ((),e)) N (0,h)
abbrev K53:b7 U:=⟨[aht,(.fn ahy ahC),(.qu (.gn .I (.gn .I ahw)) ahs)],[.v ahs],Y,.st (Y2 N)⟩
def G53:Holds 53 (K53 N):=gS N f53 (.q (.seq (O ⟨W,[],[],[],[]⟩) (.q (.block (.loop ⟨W,[1,2,12,13],[(14,.val .I)],[],[]⟩ (.q (.q (.seq (O ⟨W,[1,2,12,13,14],[],[],[]⟩) (.block (.q (.q (.block (.loop ⟨W,[1,2,7,12,13,14,21,22],[(23,.val .I)],[],[]⟩ .aC))))) .aC)))))) .aC)) nl
def F54(N:Nat):cW->V (Z dt):=λa=>O a.br
abbrev K54:b7 U:=⟨[ahy],[.v ahC],Y,.pure (F54 N)⟩
def G54:Holds 54 (K54 N):=gP N f54 .aC nl
def F55:Int×Int×dt×(V Nat)×(Z cW)->Hp->V ((V gW)×Hp):=λ(f,l,a,b,r) h=>
 b.bind λs=>
 (h.dU[s]?).bind λt=>
 (dX h.jk t.lh).bind λu=>
 bif (u.length:Int)==128 then
  (yN N (f,2,l,0,4)).bind λy=>
  O (y,h)
 else
  b.bind λz=>
  (h.dU[z]?).bind λb0=>
  (dX h.jk b0.lh).bind λm=>
  bif !((a8 c7 m a.name).getD Y).isNone then
   (yN N (f,2,l,0,40)).bind λq=>
   O (q,h)
  else
   b.bind λv=>
   (h.dU[v]?).bind λw=>
   (aR r f).bind λm0=>
   b.bind λx=>
   (h.dU[x]?).bind λA=>
   (dX h.jk A.lh).bind λB=>
   bw {h with uB:=h.uB++[[]]} λg=>
   bw {g with et:=g.et++[gD.mk a m0.name Y (B.length:Int) (O h.uB.length) Y Y [] [] F F]} λi=>
   w.lh.bind λn=>
   (i.jk[n]?).bind λC=>
   bw {i with jk:=i.jk.set n (eX c7 C a.name (O g.et.length))} λd=>
   b.bind λD=>
   (d.dU[D]?).bind λo=>
   (ad d.uC o.qw).bind λe=>
   (cR (cE 16 (e.length+[a.name].length) 140737488355328)).bind λ_=>
   bw {d with uC:=ek d.uC o.qw} λj=>
   b.bind λp=>
   (cR (!(e++[a.name]).isEmpty)).bind λ_=>
   bw {j with uC:=j.uC++[O (e++[a.name])]} λk=>
   (k.dU[p]?).bind λc=>
   bw {k with dU:=k.dU.set p (zz.mk c.lh (O (j.uC.length,(e++[a.name]).length)) (v7.mk (hW.mk) (vY.mk (hX.mk) c.ready.done.v) (pY.mk (hW.mk) c.ready.m.mu)) c.bits (Gx.mk (hX.mk) (mL.mk) c.mw.v))} λE=>
   O (Y,E)
abbrev K55:b7 U:=⟨[.I,.I,ahw,ahA,ahD],[.v ahs],Y,.st (F55 N)⟩
def G55:Holds 55 (K55 N):=gS N f55 .aC (cn (Ws N) nl) [(46,4),(48,2)]
def F30:(V Nat)×(Z cW)->Hp->V ((V gW)×Hp):=λ(c,a) h=>(Y2 N (a,λd=>F54 N d,λ(e,f,g) i=>F55 N (e,f,g,c,a) i) h).bind λb=>O (b.1,b.2)
abbrev K30:b7 U:=⟨[ahY,aht],[.v ahs],Y,.st (F30 N)⟩
def G30:Holds 30 (K30 N):=gS N f30 .aC (cn (G53 N) (cn (G54 N) (cn (G55 N) nl)))
def F56:Int×Int×dt×(V Nat)->Hp->V ((V gW)×Hp):=λ(c,d,a,b) h=>bif !(a.de==[])then b.bind λl=>(h.dU[l]?).bind λm=>(dX h.jk m.lh).bind λn=>bif ((a8 c7 n a.de).getD Y).isNone then(yN N (c,2,d,0,42)).bind λo=>O (o,h)else b.bind λp=>(h.dU[p]?).bind λr=>(dX h.jk r.lh).bind λs=>((a8 c7 s a.name).getD Y).bind λt=>(h.et[t]?).bind λu=>aS (λ(_:xW×xW)=>O (Y,h)) λg=>aZ (λv(((e,i),_):((V Nat)×Int)×xW)=>bif !e.isNone then b.bind λy=>(h.dU[y]?).bind λz=>(dX h.jk z.lh).bind λb0=>bif i<b0.length then e.bind λq=>(h.et[q]?).bind λw=>bif w.aw.name==a.name then(yN N (c,2,d,0,43)).bind λx=>O (x,h)else e.bind λA=>(h.et[A]?).bind λm0=>v ((m0.up,Wk.wrap (i+1)),())else g ((),())else g ((),())) N ((u.up,0),())else b.bind λB=>(h.dU[B]?).bind λC=>(dX h.jk C.lh).bind λD=>((a8 c7 D a.name).getD Y).bind λE=>(h.et[E]?).bind λG=>aS (λ(_:xW×xW)=>O (Y,h)) λj=>aZ (λH(((f,k),_):((V Nat)×Int)×xW)=>bif !f.isNone then b.bind λv0=>(h.dU[v0]?).bind λw0=>(dX h.jk w0.lh).bind λI=>bif k<I.length then f.bind λJ=>(h.et[J]?).bind λK=>bif K.aw.name==a.name then(yN N (c,2,d,0,43)).bind λL=>O (L,h)else f.bind λP=>(h.et[P]?).bind λQ=>H ((Q.up,Wk.wrap (k+1)),())else j ((),())else j ((),())) N ((G.up,0),())
abbrev K56:b7 U:=⟨[.I,.I,ahw,ahA],[.v ahs],Y,.st (F56 N)⟩
def G56:Holds 56 (K56 N):=gS N f56 (.q (.q (.q (.J (.q (.block (.loop ⟨F,[0,1,3,6],[(8,.val aie),(9,.val .I)],[6],[]⟩ .aC))) .aC)))) (cn (Ws N) nl)
def F31:(V Nat)×(Z cW)->Hp->V ((V gW)×Hp):=λ(c,i) h=>
 c.bind λj=>
 (h.dU[j]?).bind λk=>
 k.lh.bind λl=>
 (h.jk[l]?).bind λd=>
 kC (λ(e:cI×(V Nat))((_,b):xW×Hp) m=>
  c.bind λn=>
  (b.dU[n]?).bind λo=>
  e.2.bind λp=>
  (b.et[p]?).bind λr=>
  (dX b.jk o.lh).bind λs=>
  e.2.bind λf=>
  (b.et[f]?).bind λa=>
  bw {b with et:=b.et.set f (gD.mk a.aw a.sA ((a8 c7 s r.aw.de).getD Y) a.number a.gO a.dx a.equations a.cells a.eb a.qx a.mf)} λt=>
  m ((),t)) (λ((_,b):xW×Hp)=>
  (Y2 N (i,λu=>F54 N u,λ(v,y,z) b0=>F56 N (v,y,z,c) b0) b).bind λg=>
  O (g.1,g.2)) d.length d ((),h)
abbrev K31:b7 U:=⟨[ahY,aht],[.v ahs],Y,.st (F31 N)⟩
def G31:Holds 31 (K31 N):=gM N f31 (.q (.seq Y (.FG ⟨W,[1,2,11],[],[2],[]⟩ .aC) .aC)) (cn (G53 N) (cn (G54 N) (cn (G56 N) nl)))
def YF(N:Nat)(rec:V Nat->Hp->V ((Z (V Nat))×Hp)):V Nat->Hp->V ((Z (V Nat))×Hp):=λa h=>bif a.isNone then O ([],h)else a.bind λc=>(h.et[c]?).bind λd=>(rec d.up h).bind λb=>(cR (cE 8 (b.1.length+[a].length) 140737488355328)).bind λ_=>O ((b.1++[a]),b.2)
def LG(N:Nat):Nat->V Nat->Hp->V ((Z (V Nat))×Hp)
 |0=>λ_ _=>Y|n+1=>YF N (LG N n)
def F58:V Nat->Hp->V ((Z (V Nat))×Hp):=LG N N
abbrev aa2(rec:V Nat->Hp->V ((Z (V Nat))×Hp)):b7 U:=⟨[aie],[.bU aie 152],Y,.st rec⟩
abbrev K58:b7 U:=⟨[aie],[.bU aie 152],Y,.st (F58 N)⟩
def aa3(N:Nat)(E:cm)(a:B8 E):∀n,jV PP E TT (BB.qN 0 []) 58 (aa2 (LG N n))
 |0=>Rl au|n+1=>have b:=aa3 N E a n
  Wc SS a.ro f58 (aa2 (LG N (n+1))) N [] .aC (.cons b .nil) (LG N (n+1)) au au au λ_ _=>au
def G58:Holds 58 (K58 N):=λE a=>aa3 N E a N
def F57:Int×Int×dt×(V Nat)×(V Nat)->Hp->V ((V gW)×Hp):=λ(e,f,d,r,Q) h=>
 aS (λ(((P1,Q1,R1,t,k,l),a):(cI×cI×tl×(Z eR)×(Z gp)×(Z fH))×Hp)=>
  aS (λ((H,_):(Z cI)×xW)=>
   aS (λ((v0,_):(Z cI)×xW)=>
    aS (λ((w0,_):(Z cI)×xW)=>
     aS (λ(_:xW×xW)=>
      Q.bind λI=>
      (a.all[I]?).bind λR=>
      bw {a with all:=a.all.set I (eX c7 R d.name (dt.mk d.name d.de d.lO t k l))} λS=>
      O (Y,S)) λT=>
     aZ (λq1(((u,c),_):(Int×Int)×xW)=>
      bif c<([H,v0,w0].length:Int)then
       aS (λ((U,_):Int×xW)=>q1 ((U,Wk.wrap (c+1)),())) λv=>
       (aR [H,v0,w0] c).bind λb=>
       bif bp c 0 then
        aZ (λX(((n,g),_):(Int×Int)×xW)=>
         bif g<b.length then
          bif 32<=g then
           (yN N (e,2,f,Wk.wrap (n+1),4)).bind λa0=>
           O (a0,a)
          else
           (cR (decide (0<=g)&&decide (g.toNat<=b.length))).bind λ_=>
           (aR b g).bind λe0=>
           (XZ N (b.take g.toNat,e0)).bind λf0=>
           bif f0 then
            (yN N (e,2,f,Wk.wrap (n+1),40)).bind λh0=>
            O (h0,a)
           else
            aS (λ((i0,_):cI×xW)=>
             r.bind λl0=>
             (a.dU[l0]?).bind λo0=>
             (dX a.jk o0.lh).bind λu0=>
             bif ((a8 c7 u0 i0).getD Y).isNone then
              (yN N (e,2,f,Wk.wrap (n+1),42)).bind λA0=>
              O (A0,a)
             else X ((Wk.wrap (n+1),Wk.wrap (g+1)),())) λy=>
            bif c==1 then
             (aR k g).bind λB0=>
             y (B0.aw,())
            else
             bif c==2 then
              (aR l g).bind λC0=>
              y (C0.aw,())
             else y (d.name,())
         else v (n,())) N ((u,Wk.wrap ((b.length:Int)-(d.bl.length:Int))),())
       else
       bif bp c 1 then
        aZ (λD0(((o,i),_):(Int×Int)×xW)=>
         bif i<b.length then
          bif 32<=i then
           (yN N (e,2,f,Wk.wrap (o+1),4)).bind λE0=>
           O (E0,a)
          else
           (cR (decide (0<=i)&&decide (i.toNat<=b.length))).bind λ_=>
           (aR b i).bind λG0=>
           (XZ N (b.take i.toNat,G0)).bind λH0=>
           bif H0 then
            (yN N (e,2,f,Wk.wrap (o+1),40)).bind λI0=>
            O (I0,a)
           else
            aS (λ((s2,_):cI×xW)=>
             r.bind λJ0=>
             (a.dU[J0]?).bind λK0=>
             (dX a.jk K0.lh).bind λL0=>
             bif ((a8 c7 L0 s2).getD Y).isNone then
              (yN N (e,2,f,Wk.wrap (o+1),42)).bind λN0=>
              O (N0,a)
             else D0 ((Wk.wrap (o+1),Wk.wrap (i+1)),())) λz=>
            bif c==1 then
             (aR k i).bind λP0=>
             z (P0.aw,())
            else
             bif c==2 then
              (aR l i).bind λQ0=>
              z (Q0.aw,())
             else z (d.name,())
         else v (o,())) N ((u,Wk.wrap ((b.length:Int)-(d.bj.length:Int))),())
       else
       bif bp c 2 then
        aZ (λR0(((p,j),_):(Int×Int)×xW)=>
         bif j<b.length then
          bif 32<=j then
           (yN N (e,2,f,Wk.wrap (p+1),4)).bind λS0=>
           O (S0,a)
          else
           (cR (decide (0<=j)&&decide (j.toNat<=b.length))).bind λ_=>
           (aR b j).bind λT0=>
           (XZ N (b.take j.toNat,T0)).bind λU0=>
           bif U0 then
            (yN N (e,2,f,Wk.wrap (p+1),40)).bind λX0=>
            O (X0,a)
           else
            aS (λ((a1,_):cI×xW)=>
             r.bind λe1=>
             (a.dU[e1]?).bind λf1=>
             (dX a.jk f1.lh).bind λh1=>
             bif ((a8 c7 h1 a1).getD Y).isNone then
              (yN N (e,2,f,Wk.wrap (p+1),42)).bind λi1=>
              O (i1,a)
             else R0 ((Wk.wrap (p+1),Wk.wrap (j+1)),())) λb0=>
            bif c==1 then
             (aR k j).bind λl1=>
             b0 (l1.aw,())
            else
             bif c==2 then
              (aR l j).bind λo1=>
              b0 (o1.aw,())
             else b0 (d.name,())
         else v (p,())) N ((u,Wk.wrap ((b.length:Int)-(d.ab.length:Int))),())
       else
       Y
      else T ((),())) N ((0,0),())) λu1=>
    aZ (λA1(((q,w),_):((Z cI)×Int)×xW)=>
     bif w<l.length then
      (aR l w).bind λJ=>
      (cR (cE 16 (q.length+[J.role].length) 140737488355328)).bind λ_=>
      A1 ((q++[J.role],Wk.wrap (w+1)),())
     else u1 (q,())) N (([],0),())) λB1=>
   aZ (λC1(((x,A),_):((Z cI)×Int)×xW)=>
    bif A<k.length then
     (aR k A).bind λK=>
     (cR (cE 16 (x.length+[K.role].length) 140737488355328)).bind λ_=>
     C1 ((x++[K.role],Wk.wrap (A+1)),())
    else B1 (x,())) N (([],0),())) λD1=>
  aZ (λE1(((m0,B),_):((Z cI)×Int)×xW)=>
   bif B<t.length then
    (aR t B).bind λL=>
    (cR (cE 16 (m0.length+[L.name].length) 140737488355328)).bind λ_=>
    E1 ((m0++[L.name],Wk.wrap (B+1)),())
   else D1 (m0,())) N (([],0),())) λG1=>
 r.bind λH1=>
 (h.dU[H1]?).bind λI1=>
 (dX h.jk I1.lh).bind λJ1=>
 (F58 N ((a8 c7 J1 d.name).getD Y) h).bind λs=>
 aZ (λK1(((C,d1,g1,P,D,E,G),_):(Int×cI×cI×tl×(Z eR)×(Z gp)×(Z fH))×xW)=>
  bif C<s.1.length then
   (aR s.1 C).bind λL1=>
   L1.bind λN1=>
   (s.2.et[N1]?).bind λm=>
   (cR (cE 24 (D.length+m.aw.bl.length) 140737488355328)).bind λ_=>
   (cR (cE 48 (E.length+m.aw.bj.length) 140737488355328)).bind λ_=>
   (cR (cE 40 (G.length+m.aw.ab.length) 140737488355328)).bind λ_=>
   K1 ((Wk.wrap (C+1),d1,g1,P,D++m.aw.bl,E++m.aw.bj,G++m.aw.ab),())
  else G1 ((d1,g1,P,D,E,G),s.2)) N ((0,[],[],F,[],[],[]),())
abbrev K57:b7 U:=⟨[.I,.I,ahw,ahA,(.cell (.mp 8))],[.v ahs],Y,.st (F57 N)⟩
def G57:Holds 57 (K57 N):=gS N f57 (.q (.q (.q (.seq (O ⟨W,[0,1,3,4,7,9,10,11,12],[],[7],[(12,.cells ahw [.val .str,.val .str,.val .bool,.bU 501203 ahQ 163,.bU 501204 ahR 165,.bU 501205 ahJ 167])]⟩) (.q (.block (.loop ⟨F,[0,1,3,4,7,9,10,11,12,35,36],[(37,.val .I)],[7,35],[(12,.cells ahw [.val .str,.val .str,.val .bool,.bU 501203 ahQ 163,.bU 501204 ahR 165,.bU 501205 ahJ 167])]⟩ .aC))) (.seq (O ⟨F,[0,1,3,4,7,10,11,12],[(9,.bU 9 .str 9)],[7,12,501203,501204,501205],[]⟩) (.q (.block (.loop ⟨F,[0,1,3,4,7,10,11,12,65,66],[(9,.bU 9 .str 9),(67,.val .I)],[7,12,501203,501204,501205],[]⟩ .aC))) (.seq (O ⟨F,[0,1,3,4,7,9,11,12],[(10,.bU 10 .str 9)],[7,9,12,501203,501204,501205],[]⟩) (.q (.block (.loop ⟨F,[0,1,3,4,7,9,11,12,78,79],[(10,.bU 10 .str 9),(80,.val .I)],[7,9,12,501203,501204,501205],[]⟩ .aC))) (.seq (O ⟨F,[0,1,3,4,7,9,10,12],[(11,.bU 11 .str 9)],[7,9,10,12,501203,501204,501205],[]⟩) (.q (.block (.loop ⟨F,[0,1,3,4,7,9,10,12,91,92],[(11,.bU 11 .str 9),(93,.val .I)],[7,9,10,12,501203,501204,501205],[]⟩ .aC))) (.q (.seq (O ⟨F,[4,7,12],[],[7,12,501203,501204,501205],[]⟩) (.q (.block (.loop ⟨F,[0,1,3,4,7,12,106,107],[(22,.val .I),(108,.val .I)],[7,12,106,501203,501204,501205],[]⟩ (.q (.q (.seq (O ⟨F,[0,1,3,4,7,12,106,107,108],[(22,.val .I)],[7,12,106,501203,501204,501205],[]⟩) (.block (.q (.q (.q (.block (.loop ⟨F,[0,1,3,4,7,12,23,24,106,107,108],[(22,.val .I),(26,.val .I)],[7,12,106,501203,501204,501205],[]⟩ (.q (.seq Y (.block (.q (.q (.q (.q (.seq (O ⟨F,[0,1,3,4,7,12,22,23,24,26,106,107,108],[(27,.val .str)],[7,12,106,501203,501204,501205],[]⟩) .aC .aC)))))) .aC)))))))) .aC)))))) .aC))))))))) (cn (Ws N) (cn (G58 N) (cn (G59 N) nl)))
def F32:(V Nat)×(Z cW)->Hp->V ((V gW)×Hp):=λ(d,i) h=>
 bw {h with all:=h.all++[[]]} λj=>
 (Y2 N (i,λk=>F54 N k,λ(l,m,n) o=>F57 N (l,m,n,d,O h.all.length) o) j).bind λc=>
 (O h.all.length).bind λp=>
 (c.2.all[p]?).bind λe=>
 kC (λ(f:cI×dt)((_,b):xW×Hp) r=>
  d.bind λs=>
  (b.dU[s]?).bind λt=>
  (dX b.jk t.lh).bind λu=>
  ((a8 c7 u f.1).getD Y).bind λg=>
  (b.et[g]?).bind λa=>
  bw {b with et:=b.et.set g (gD.mk f.2 a.sA a.up a.number a.gO a.dx a.equations a.cells a.eb a.qx a.mf)} λv=>
  r ((),v)) (λ((_,b):xW×Hp)=>
  O (c.1,b)) e.length e ((),c.2)
abbrev K32:b7 U:=⟨[ahY,aht],[.v ahs],Y,.st (F32 N)⟩
def G32:Holds 32 (K32 N):=gM N f32 (.q (.q (.q (.seq Y (.FG ⟨W,[2,6,14],[],[],[]⟩ .aC) .aC)))) (cn (G53 N) (cn (G54 N) (cn (G57 N) nl))) [(9,8)]
def F61:(Z cW)×(cW->V (Z qy))×((Int×Int×qy)->Hp->V ((V gW)×Hp))->Hp->V ((V gW)×Hp):=λ(d,i,j) h=>aS (λ((_,k):xW×Hp)=>O (Y,k)) λl=>aZ (λm((a,e):Int×Hp)=>bif a<d.length then aS (λ((_,n):xW×Hp)=>m (Wk.wrap (a+1),n)) λo=>(aR d a).bind λp=>(i p).bind λf=>aZ (λr((b,g):Int×Hp)=>bif b<f.length then(aR f b).bind λs=>(j (a,b,s) g).bind λc=>bif !c.1.isNone then O (c.1,c.2)else r (Wk.wrap (b+1),c.2)else o ((),g)) N (0,e)else l ((),e)) N (0,h)
abbrev K61:b7 U:=⟨[aht,(.fn ahy ahG),(.qu (.gn .I (.gn .I ahE)) ahs)],[.v ahs],Y,.st (F61 N)⟩
def G61:Holds 61 (K61 N):=gS N f61 (.q (.seq (O ⟨W,[],[],[],[]⟩) (.q (.block (.loop ⟨W,[1,2,12,13],[(14,.val .I)],[],[]⟩ (.q (.q (.seq (O ⟨W,[1,2,12,13,14],[],[],[]⟩) (.block (.q (.q (.block (.loop ⟨W,[1,2,7,12,13,14,21,22],[(23,.val .I)],[],[]⟩ .aC))))) .aC)))))) .aC)) nl
def F62(N:Nat):cW->V (Z qy):=λa=>O a.dx
abbrev K62:b7 U:=⟨[ahy],[.v ahG],Y,.pure (F62 N)⟩
def G62:Holds 62 (K62 N):=gP N f62 .aC nl
def F64:Int×Int×Int×Int->V (V gW):=λ(a,b,c,d)=>bif a==0 then O Y else(yN N (b,c,d,0,a)).bind λe=>O e
abbrev K64:b7 U:=⟨[.I,.I,.I,.I],[.v ahs],Y,.pure (F64 N)⟩
def G64:Holds 64 (K64 N):=gP N f64 .aC (cn (Ws N) nl)
def YG(N:Nat):qy×qy->V tl:=λ(a,b)=>O (a.name==b.name)
abbrev afM:b7 U:=⟨[ahE,ah8],[.v .bool],Y,.pure (YG N)⟩
def afN:Holds 170 (afM N):=gP N f170 .aC nl
def YH(N:Nat):fH×qy->V tl:=λ(a,b)=>O (a.role==b.name)
abbrev afO:b7 U:=⟨[ahJ,ah8],[.v .bool],Y,.pure (YH N)⟩
def afP:Holds 172 (afO N):=gP N f172 .aC nl
def F65:(V Nat)×qy->Hp->V (Int×Hp):=λ(k,a) h=>
 k.bind λl=>
 (h.dU[l]?).bind λm=>
 (dX h.jk m.lh).bind λc=>
 bif ((a8 c7 c a.aw).getD Y).isNone then O (42,h)
 else
  bif !a.scope then
   ((a8 c7 c a.aw).getD Y).bind λn=>
   (h.et[n]?).bind λo=>
   (ad h.Cb o.dx).bind λp=>
   (RL N (p,λr=>YG N (r,a))).bind λs=>
   bif s then O (40,h)
   else
    ((a8 c7 c a.aw).getD Y).bind λt=>
    (h.et[t]?).bind λg=>
    (ad h.Cb g.dx).bind λd=>
    (cR (cE 56 (d.length+[a].length) 140737488355328)).bind λ_=>
    bw {h with Cb:=ek h.Cb g.dx} λe=>
    ((a8 c7 c a.aw).getD Y).bind λi=>
    (cR (!(d++[a]).isEmpty)).bind λ_=>
    bw {e with Cb:=e.Cb++[O (d++[a])]} λf=>
    (f.et[i]?).bind λb=>
    bw {f with et:=f.et.set i (gD.mk b.aw b.sA b.up b.number b.gO (O (e.Cb.length,(d++[a]).length)) b.equations b.cells b.eb b.qx b.mf)} λu=>
    O (0,u)
  else
   ((a8 c7 c a.aw).getD Y).bind λv=>
   (h.et[v]?).bind λy=>
   (OL N (y.aw.ab,λz=>YH N (z,a))).bind λb0=>
   bif !b0 then O (42,h)
   else
    ((a8 c7 c a.aw).getD Y).bind λq=>
    (h.et[q]?).bind λw=>
    (dX h.uB w.gO).bind λx=>
    bif (a8 c7 x a.name).isSome then O (40,h)
    else
     ((a8 c7 c a.aw).getD Y).bind λA=>
     (h.et[A]?).bind λm0=>
     m0.gO.bind λj=>
     (h.uB[j]?).bind λB=>
     bw {h with uB:=h.uB.set j (eX c7 B a.name (Ca.mk a.Lb))} λC=>
     O (0,C)
abbrev K65:b7 U:=⟨[ahY,ahE],[.v .I],Y,.st (F65 N)⟩
def G65:Holds 65 (K65 N):=gS N f65 .aC (cn (aal N) (cn (afN N) (cn (aai N) (cn (afP N) nl))))
def F63:Int×Int×qy×(V Nat)×Int->Hp->V ((V gW)×Hp):=λ(g,b,c,d,e) h=>(F65 N (d,c) h).bind λa=>(F64 N (a.1,e,3,b)).bind λf=>O (f,a.2)
abbrev K63:b7 U:=⟨[.I,.I,ahE,ahA,aih],[.v ahs],Y,.st (F63 N)⟩
def G63:Holds 63 (K63 N):=gS N f63 .aC (cn (G64 N) (cn (G65 N) nl))
def F60:(Z cW)×(V Nat)×Int->Hp->V ((V gW)×Hp):=λ(c,d,a) h=>(F61 N (c,λa=>F62 N a,λ(e,f,g) i=>F63 N (e,f,g,d,a) i) h).bind λb=>O (b.1,b.2)
abbrev K60:b7 U:=⟨[ahD,ahA,aih],[.v ahs],Y,.st (F60 N)⟩
def G60:Holds 60 (K60 N):=gS N f60 .aC (cn (G61 N) (cn (G62 N) (cn (G63 N) nl)))
def F67:(Z cW)×(cW->V (Z cV))×((Int×Int×cV)->Hp->V ((V gW)×Hp))->Hp->V ((V gW)×Hp):=λ(d,i,j) h=>aS (λ((_,k):xW×Hp)=>O (Y,k)) λl=>aZ (λm((a,e):Int×Hp)=>bif a<d.length then aS (λ((_,n):xW×Hp)=>m (Wk.wrap (a+1),n)) λo=>(aR d a).bind λp=>(i p).bind λf=>aZ (λr((b,g):Int×Hp)=>bif b<f.length then(aR f b).bind λs=>(j (a,b,s) g).bind λc=>bif !c.1.isNone then O (c.1,c.2)else r (Wk.wrap (b+1),c.2)else o ((),g)) N (0,e)else l ((),e)) N (0,h)
abbrev K67:b7 U:=⟨[aht,(.fn ahy ahX),(.qu (.gn .I (.gn .I ahS)) ahs)],[.v ahs],Y,.st (F67 N)⟩
def G67:Holds 67 (K67 N):=gS N f67 (.q (.seq (O ⟨W,[],[],[],[]⟩) (.q (.block (.loop ⟨W,[1,2,12,13],[(14,.val .I)],[],[]⟩ (.q (.q (.seq (O ⟨W,[1,2,12,13,14],[],[],[]⟩) (.block (.q (.q (.block (.loop ⟨W,[1,2,7,12,13,14,21,22],[(23,.val .I)],[],[]⟩ .aC))))) .aC)))))) .aC)) nl
def F68(N:Nat):cW->V (Z cV):=λa=>O a.equations
abbrev K68:b7 U:=⟨[ahy],[.v ahX],Y,.pure (F68 N)⟩
def G68:Holds 68 (K68 N):=gP N f68 .aC nl
def YI(N:Nat):Z Int->V (Z Int):=λa=>bif a.isEmpty then both (O []) ((cR (cE 8 (0+a.length) 140737488355328)).bind λ_=>O (([]:Z _)++a))else(cR (cE 8 (0+a.length) 140737488355328)).bind λ_=>O (([]:Z _)++a)
abbrev afQ:b7 U:=⟨[ah6],[.bU .I 3],Y,.pure (YI N)⟩
def afR:Holds 235 (afQ N):=gP N f235 .aC nl
def Sm:Z kI->V (Z kI):=λd=>aS (λ((f,_):(Z kI)×xW)=>O f) λg=>aZ (λi(((b,c),_):((Z kI)×Int)×xW)=>bif c<d.length then(aR d c).bind λa=>(YI N a.args).bind λe=>(cR (cE 56 (b.length+[kI.mk a.kind a.name a.num e].length) 140737488355328)).bind λ_=>i ((b++[kI.mk a.kind a.name a.num e],Wk.wrap (c+1)),())else g (b,())) N (([],0),())
abbrev afS:b7 U:=⟨[ahF],[.bU aia 341],Y,.pure (Sm N)⟩
def afT:Holds 173 (afS N):=gP N f173 (.q (.q (.seq (O ⟨F,[],[(3,.bU 3 aia 341)],[],[]⟩) (.W [6,7] [(3,.bU 3 aia 341),(8,.val .I)]) .aC))) (cn (afR N) nl)
def F70:cV->V cV:=λa=>(Sm N a.left).bind λb=>(Sm N a.right).bind λc=>O (cV.mk a.aw b c)
abbrev K70:b7 U:=⟨[ahS],[.v ahS],Y,.pure (F70 N)⟩
def G70:Holds 70 (K70 N):=gP N f70 .aC (cn (afT N) nl)
def F69:Int×Int×cV×(V Nat)×Int->Hp->V ((V gW)×Hp):=λ(t,k,b,l,m) h=>
 l.bind λn=>
 (h.dU[n]?).bind λo=>
 (dX h.jk o.lh).bind λe=>
 bif ((a8 c7 e b.aw).getD Y).isNone then
  (yN N (m,4,k,0,42)).bind λp=>
  O (p,h)
 else
  ((a8 c7 e b.aw).getD Y).bind λr=>
  (h.et[r]?).bind λi=>
  (F70 N b).bind λc=>
  (ad h.CV i.equations).bind λd=>
  (cR (cE 64 (d.length+[c].length) 140737488355328)).bind λ_=>
  bw {h with CV:=ek h.CV i.equations} λf=>
  ((a8 c7 e b.aw).getD Y).bind λj=>
  (cR (!(d++[c]).isEmpty)).bind λ_=>
  bw {f with CV:=f.CV++[O (d++[c])]} λg=>
  (g.et[j]?).bind λa=>
  bw {g with et:=g.et.set j (gD.mk a.aw a.sA a.up a.number a.gO a.dx (O (f.CV.length,(d++[c]).length)) a.cells a.eb a.qx a.mf)} λs=>
  O (Y,s)
abbrev K69:b7 U:=⟨[.I,.I,ahS,ahA,aih],[.v ahs],Y,.st (F69 N)⟩
def G69:Holds 69 (K69 N):=gS N f69 .aC (cn (Ws N) (cn (G70 N) nl))
def F66:(Z cW)×(V Nat)×Int->Hp->V ((V gW)×Hp):=λ(c,d,a) h=>(F67 N (c,λa=>F68 N a,λ(e,f,g) i=>F69 N (e,f,g,d,a) i) h).bind λb=>O (b.1,b.2)
abbrev K66:b7 U:=⟨[ahD,ahA,aih],[.v ahs],Y,.st (F66 N)⟩
def G66:Holds 66 (K66 N):=gS N f66 .aC (cn (G67 N) (cn (G68 N) (cn (G69 N) nl)))
def F72:(Z cW)×(cW->V (Z er))×((Int×Int×er)->Hp->V ((V gW)×Hp))->Hp->V ((V gW)×Hp):=λ(d,i,j) h=>aS (λ((_,k):xW×Hp)=>O (Y,k)) λl=>aZ (λm((a,e):Int×Hp)=>bif a<d.length then aS (λ((_,n):xW×Hp)=>m (Wk.wrap (a+1),n)) λo=>(aR d a).bind λp=>(i p).bind λf=>aZ (λr((b,g):Int×Hp)=>bif b<f.length then(aR f b).bind λs=>(j (a,b,s) g).bind λc=>bif !c.1.isNone then O (c.1,c.2)else r (Wk.wrap (b+1),c.2)else o ((),g)) N (0,e)else l ((),e)) N (0,h)
abbrev K72:b7 U:=⟨[aht,(.fn ahy ahH),(.qu (.gn .I (.gn .I ahL)) ahs)],[.v ahs],Y,.st (F72 N)⟩
def G72:Holds 72 (K72 N):=gS N f72 (.q (.seq (O ⟨W,[],[],[],[]⟩) (.q (.block (.loop ⟨W,[1,2,12,13],[(14,.val .I)],[],[]⟩ (.q (.q (.seq (O ⟨W,[1,2,12,13,14],[],[],[]⟩) (.block (.q (.q (.block (.loop ⟨W,[1,2,7,12,13,14,21,22],[(23,.val .I)],[],[]⟩ .aC))))) .aC)))))) .aC)) nl
def F73(N:Nat):cW->V (Z er):=λa=>O a.dv
abbrev K73:b7 U:=⟨[ahy],[.v ahH],Y,.pure (F73 N)⟩
def G73:Holds 73 (K73 N):=gP N f73 .aC nl
def F75(N:Nat):Z Cell->V (Z Cell):=λa=>bif a.isEmpty then both (O []) ((cR (cE 40 (0+a.length) 140737488355328)).bind λ_=>O (([]:Z _)++a))else(cR (cE 40 (0+a.length) 140737488355328)).bind λ_=>O (([]:Z _)++a)
abbrev K75:b7 U:=⟨[ah1],[.bU aii 192],Y,.pure (F75 N)⟩
def G75:Holds 75 (K75 N):=gP N f75 .aC nl
def F74:Int×Int×er×(V Nat)×Int->Hp->V ((V gW)×Hp):=λ(u,f,c,k,g) h=>
 k.bind λl=>
 (h.dU[l]?).bind λm=>
 (dX h.jk m.lh).bind λd=>
 bif ((a8 c7 d c.aw).getD Y).isNone then
  (yN N (g,5,f,0,42)).bind λn=>
  O (n,h)
 else
  ((a8 c7 d c.aw).getD Y).bind λo=>
  (h.et[o]?).bind λp=>
  bif p.qx then
   (yN N (g,5,f,0,40)).bind λr=>
   O (r,h)
  else
   (F75 N c.cells).bind λs=>
   ((a8 c7 d c.aw).getD Y).bind λi=>
   (h.et[i]?).bind λa=>
   bw {h with et:=h.et.set i (gD.mk a.aw a.sA a.up a.number a.gO a.dx a.equations a.cells a.eb W a.mf)} λe=>
   ((a8 c7 d c.aw).getD Y).bind λj=>
   (e.et[j]?).bind λb=>
   bw {e with et:=e.et.set j (gD.mk b.aw b.sA b.up b.number b.gO b.dx b.equations s b.eb b.qx b.mf)} λt=>
   O (Y,t)
abbrev K74:b7 U:=⟨[.I,.I,ahL,ahA,aih],[.v ahs],Y,.st (F74 N)⟩
def G74:Holds 74 (K74 N):=gS N f74 .aC (cn (Ws N) (cn (G75 N) nl))
def F71:(Z cW)×(V Nat)×Int->Hp->V ((V gW)×Hp):=λ(c,d,a) h=>(F72 N (c,λa=>F73 N a,λ(e,f,g) i=>F74 N (e,f,g,d,a) i) h).bind λb=>O (b.1,b.2)
abbrev K71:b7 U:=⟨[ahD,ahA,aih],[.v ahs],Y,.st (F71 N)⟩
def G71:Holds 71 (K71 N):=gS N f71 .aC (cn (G72 N) (cn (G73 N) (cn (G74 N) nl)))
def F77:(Z cW)×(cW->V (Z cC))×((Int×Int×cC)->Hp->V ((V gW)×Hp))->Hp->V ((V gW)×Hp):=λ(d,i,j) h=>aS (λ((_,k):xW×Hp)=>O (Y,k)) λl=>aZ (λm((a,e):Int×Hp)=>bif a<d.length then aS (λ((_,n):xW×Hp)=>m (Wk.wrap (a+1),n)) λo=>(aR d a).bind λp=>(i p).bind λf=>aZ (λr((b,g):Int×Hp)=>bif b<f.length then(aR f b).bind λs=>(j (a,b,s) g).bind λc=>bif !c.1.isNone then O (c.1,c.2)else r (Wk.wrap (b+1),c.2)else o ((),g)) N (0,e)else l ((),e)) N (0,h)
abbrev K77:b7 U:=⟨[aht,(.fn ahy ahI),(.qu (.gn .I (.gn .I ahM)) ahs)],[.v ahs],Y,.st (F77 N)⟩
def G77:Holds 77 (K77 N):=gS N f77 (.q (.seq (O ⟨W,[],[],[],[]⟩) (.q (.block (.loop ⟨W,[1,2,12,13],[(14,.val .I)],[],[]⟩ (.q (.q (.seq (O ⟨W,[1,2,12,13,14],[],[],[]⟩) (.block (.q (.q (.block (.loop ⟨W,[1,2,7,12,13,14,21,22],[(23,.val .I)],[],[]⟩ .aC))))) .aC)))))) .aC)) nl
def F78(N:Nat):cW->V (Z cC):=λa=>O a.ch
abbrev K78:b7 U:=⟨[ahy],[.v ahI],Y,.pure (F78 N)⟩
def G78:Holds 78 (K78 N):=gP N f78 .aC nl
def F80(N:Nat):Z sU->V (Z sU):=λa=>bif a.isEmpty then both (O []) ((cR (cE 40 (0+a.length) 140737488355328)).bind λ_=>O (([]:Z _)++a))else(cR (cE 40 (0+a.length) 140737488355328)).bind λ_=>O (([]:Z _)++a)
abbrev K80:b7 U:=⟨[ah2],[.bU aij 199],Y,.pure (F80 N)⟩
def G80:Holds 80 (K80 N):=gP N f80 .aC nl
def F79:Int×Int×cC×(V Nat)×Int->Hp->V ((V gW)×Hp):=λ(u,f,c,k,g) h=>
 k.bind λl=>
 (h.dU[l]?).bind λm=>
 (dX h.jk m.lh).bind λd=>
 bif ((a8 c7 d c.aw).getD Y).isNone then
  (yN N (g,6,f,0,42)).bind λn=>
  O (n,h)
 else
  ((a8 c7 d c.aw).getD Y).bind λo=>
  (h.et[o]?).bind λp=>
  bif p.mf then
   (yN N (g,6,f,0,40)).bind λr=>
   O (r,h)
  else
   (F80 N c.eb).bind λs=>
   ((a8 c7 d c.aw).getD Y).bind λi=>
   (h.et[i]?).bind λa=>
   bw {h with et:=h.et.set i (gD.mk a.aw a.sA a.up a.number a.gO a.dx a.equations a.cells a.eb a.qx W)} λe=>
   ((a8 c7 d c.aw).getD Y).bind λj=>
   (e.et[j]?).bind λb=>
   bw {e with et:=e.et.set j (gD.mk b.aw b.sA b.up b.number b.gO b.dx b.equations b.cells s b.qx b.mf)} λt=>
   O (Y,t)
abbrev K79:b7 U:=⟨[.I,.I,ahM,ahA,aih],[.v ahs],Y,.st (F79 N)⟩
def G79:Holds 79 (K79 N):=gS N f79 .aC (cn (Ws N) (cn (G80 N) nl))
def F76:(Z cW)×(V Nat)×Int->Hp->V ((V gW)×Hp):=λ(c,d,a) h=>(F77 N (c,λa=>F78 N a,λ(e,f,g) i=>F79 N (e,f,g,d,a) i) h).bind λb=>O (b.1,b.2)
abbrev K76:b7 U:=⟨[ahD,ahA,aih],[.v ahs],Y,.st (F76 N)⟩
def G76:Holds 76 (K76 N):=gS N f76 .aC (cn (G77 N) (cn (G78 N) (cn (G79 N) nl)))
def F33:(V Nat)×(Z cW)->Hp->V ((V gW)×Hp):=λ(c,b) h=>aS (λ((_,j):xW×Hp)=>O (Y,j)) λk=>aZ (λl((a,i):Int×Hp)=>bif a<b.length then(cR (decide (0<=a)&&(decide (0<=Wk.wrap (a+1))&&(decide (a.toNat<=(Wk.wrap (a+1)).toNat)&&decide ((Wk.wrap (a+1)).toNat<=b.length))))).bind λ_=>(F60 N ((b.take ((Wk.wrap (a+1)).toNat)).drop a.toNat,c,a) i).bind λd=>bif !d.1.isNone then O (d.1,d.2)else(F66 N ((b.take ((Wk.wrap (a+1)).toNat)).drop a.toNat,c,a) d.2).bind λe=>bif !e.1.isNone then O (e.1,e.2)else(F71 N ((b.take ((Wk.wrap (a+1)).toNat)).drop a.toNat,c,a) e.2).bind λf=>bif !f.1.isNone then O (f.1,f.2)else(F76 N ((b.take ((Wk.wrap (a+1)).toNat)).drop a.toNat,c,a) f.2).bind λg=>bif !g.1.isNone then O (g.1,g.2)else l (Wk.wrap (a+1),g.2)else k ((),i)) N (0,h)
abbrev K33:b7 U:=⟨[ahY,aht],[.v ahs],Y,.st (F33 N)⟩
def G33:Holds 33 (K33 N):=gS N f33 (.q (.seq (O ⟨W,[],[],[],[]⟩) (.q (.block (.loop ⟨W,[1,2,12],[(13,.val .I)],[],[]⟩ (.q (.q (.seq Y (.block (.q (.q (.q (.q (.block (.rv .aC))))))) .aC)))))) .aC)) (cn (G60 N) (cn (G66 N) (cn (G71 N) (cn (G76 N) nl)))) [(2,998)]
def F19:Z cW->Hp->V (((V Nat)×gW)×Hp):=λb h=>
 bw {h with jk:=h.jk++[[]]} λa=>
 bw {a with dU:=a.dU++[zz.mk (O h.jk.length) Y (v7.mk (hW.mk) (vY.mk (hX.mk) 0) (pY.mk (hW.mk) (xD.mk 0 0))) Y (Gx.mk (hX.mk) (mL.mk) 0)]} λg=>
 (F29 N (O a.dU.length,b)).bind λi=>
 bif !i.isNone then
  i.bind λj=>
  O ((Y,j),g)
 else
  (F30 N (O a.dU.length,b) g).bind λd=>
  bif !d.1.isNone then
   d.1.bind λk=>
   O ((Y,k),d.2)
  else
   (F31 N (O a.dU.length,b) d.2).bind λe=>
   bif !e.1.isNone then
    e.1.bind λl=>
    O ((Y,l),e.2)
   else
    (F32 N (O a.dU.length,b) e.2).bind λf=>
    bif !f.1.isNone then
     f.1.bind λm=>
     O ((Y,m),f.2)
    else
     (F33 N (O a.dU.length,b) f.2).bind λc=>
     bif !c.1.isNone then
      c.1.bind λn=>
      O ((Y,n),c.2)
     else
      (O a.dU.length).bind λo=>
      (c.2.dU[o]?).bind λp=>
      (F34 N p.qw c.2).bind λr=>
      O ((O a.dU.length,gW.mk 0 0 0 0),r.2)
abbrev K19:b7 U:=⟨[aht],[.v ahY,.v ahN],Y,.st (F19 N)⟩
def G19:Holds 19 (K19 N):=gS N f19 (.q (.q (.seq Y (.q (.block (.rv .aC))) .aC))) (cn (G29 N) (cn (G30 N) (cn (G31 N) (cn (G32 N) (cn (G33 N) (cn (G34 N) nl)))))) [(8,3),(10,1)]
def Ps(N:Nat):Int×Int×Int×Int×Int->V gW:=λ(a,b,c,d,e)=>O (gW.mk (Wk.wrap ((Wk.wrap (10*a))+b)) c d e)
abbrev K35:b7 U:=⟨[.I,.I,.I,.I,.I],[.v ahN],Y,.pure (Ps N)⟩
def G35:Holds 35 (K35 N):=gP N f35 .aC nl
def Sn:Int×cI->V tl:=λ(c,b)=>aS (λ(_:xW×xW)=>O F) λd=>aZ (λe((a,_):Int×xW)=>bif a<b.length then(aR b a).bind λf=>bif (f.toNat:Int)==c then O W else e (Wk.wrap (a+1),())else d ((),())) N (0,())
abbrev afU:b7 U:=⟨[ain,.str],[.v .bool],Y,.pure (Sn N)⟩
def afV:Holds 185 (afU N):=gP N f185 (.q (.J (.W [0,1] [(5,.val .I)]) .aC)) nl
def GN:cI->V tl:=λa=>bif (a.length:Int)<1 then O F else bif 32<(a.length:Int)then O F else(aR a 0).bind λc=>(Sn N ((c.toNat:Int),[65,66,67,68,69,70,71,72,73,74,75,76,77,78,79,80,81,82,83,84,85,86,87,88,89,90,97,98,99,100,101,102,103,104,105,106,107,108,109,110,111,112,113,114,115,116,117,118,119,120,121,122])).bind λd=>bif !d then O F else aS (λ(_:xW×xW)=>O W) λe=>aZ (λf((b,_):Int×xW)=>bif b<a.length then(aR a b).bind λg=>(Sn N ((g.toNat:Int),[65,66,67,68,69,70,71,72,73,74,75,76,77,78,79,80,81,82,83,84,85,86,87,88,89,90,97,98,99,100,101,102,103,104,105,106,107,108,109,110,111,112,113,114,115,116,117,118,119,120,121,122,48,49,50,51,52,53,54,55,56,57,95])).bind λi=>bif !i then O F else f (Wk.wrap (b+1),())else e ((),())) N (1,())
abbrev K83:b7 U:=⟨[.str],[.v .bool],Y,.pure (GN N)⟩
def Sp:Holds 83 (K83 N):=gP N f83 (.q (.q (.J (.W [0] [(3,.val .I)]) .aC))) (cn (afV N) nl)
def Sq(N:Nat):Int×Int×Int×Int->V gW:=λ(b,c,d,a)=>bif a==0 then O (gW.mk 0 0 0 0)else O (gW.mk b c d a)
abbrev K84:b7 U:=⟨[.I,.I,.I,.I],[.v ahN],Y,.pure (Sq N)⟩
def G84:Holds 84 (K84 N):=gP N f84 .aC nl
def F85:cW×Int->V Int:=λ(a,b)=>bif 8<=b then O 4 else(aR a.pZ b).bind λd=>(GN N d).bind λe=>bif !e then O 2 else(aR a.pZ b).bind λf=>bif f==a.name then O 40 else aS (λ(_:xW×xW)=>O 0) λg=>aZ (λi((c,_):Int×xW)=>bif c<b then(aR a.pZ c).bind λj=>(aR a.pZ b).bind λk=>bif j==k then O 40 else i (Wk.wrap (c+1),())else g ((),())) N (0,())
abbrev K85:b7 U:=⟨[ahy,.I],[.v .I],Y,.pure (F85 N)⟩
def G85:Holds 85 (K85 N):=gP N f85 (.q (.q (.q (.q (.J (.q (.block (.loop ⟨F,[1,2],[(5,.val .I)],[2],[]⟩ .aC))) .aC))))) (cn (Sp N) nl)
def Sr:dt×Int->V Int:=λ(b,a)=>bif 32<=a then O 4 else(aR b.bl a).bind λd=>(GN N d.name).bind λe=>bif !e then O 2 else aS (λ(_:xW×xW)=>(aR b.bl a).bind λf=>bif f.type<1 then O 41 else(aR b.bl a).bind λg=>bif 4<g.type then O 41 else O 0) λi=>aZ (λj((c,_):Int×xW)=>bif c<a then(aR b.bl c).bind λk=>(aR b.bl a).bind λl=>bif k.name==l.name then O 40 else j (Wk.wrap (c+1),())else i ((),())) N (0,())
abbrev afW:b7 U:=⟨[ahw,.I],[.v .I],Y,.pure (Sr N)⟩
def afX:Holds 186 (afW N):=gP N f186 (.q (.q (.q (.seq (O ⟨F,[1,2],[],[2],[]⟩) (.q (.block (.loop ⟨F,[1,2],[(5,.val .I)],[2],[]⟩ .aC))) .aC)))) (cn (Sp N) nl)
def Ss:dt×Int->V Int:=λ(d,b)=>(aR d.bj b).bind λa=>bif 32<=b then O 4 else(GN N a.role).bind λe=>bif !e then O 2 else(GN N a.aw).bind λf=>bif !f then O 2 else aS (λ(_:xW×xW)=>bif !(a.min==0)then bif !(a.min==1)then O 44 else bif !(a.max==0)then bif !(a.max==1)then O 44 else O 0 else O 0 else bif !(a.max==0)then bif !(a.max==1)then O 44 else O 0 else O 0) λg=>aZ (λi((c,_):Int×xW)=>bif c<b then(aR d.bj c).bind λj=>bif j.role==a.role then O 40 else i (Wk.wrap (c+1),())else g ((),())) N (0,())
abbrev afY:b7 U:=⟨[ahw,.I],[.v .I],Y,.pure (Ss N)⟩
def afZ:Holds 187 (afY N):=gP N f187 (.q (.q (.q (.q (.seq (O ⟨F,[5],[],[5],[]⟩) (.q (.block (.loop ⟨F,[1,2,5],[(6,.val .I)],[2,5],[]⟩ .aC))) .aC))))) (cn (Sp N) nl)
def Su:dt×Int->V Int:=λ(d,a)=>(aR d.ab a).bind λb=>bif 32<=a then O 4 else(GN N b.role).bind λe=>bif !e then O 2 else(GN N b.aw).bind λf=>bif !f then O 2 else aS (λ(_:xW×xW)=>O 0) λg=>aZ (λi((c,_):Int×xW)=>bif c<a then(aR d.ab c).bind λj=>bif j.role==b.role then O 40 else i (Wk.wrap (c+1),())else g ((),())) N (0,())
abbrev af0:b7 U:=⟨[ahw,.I],[.v .I],Y,.pure (Su N)⟩
def af1:Holds 188 (af0 N):=gP N f188 (.q (.q (.q (.q (.J (.q (.block (.loop ⟨F,[1,2,5],[(6,.val .I)],[2,5],[]⟩ .aC))) .aC))))) (cn (Sp N) nl)
def F86:cW×Int->V (Int×Int):=λ(k,i)=>(aR k.br i).bind λa=>bif 128<=i then O (0,4)else(GN N a.name).bind λs=>bif !s then O (0,2)else aS (λ(_:xW×xW)=>bif !(a.de==[])then(GN N a.de).bind λt=>bif !t then O (0,2)else bif a.de==a.name then O (0,43)else aS (λ(_:xW×xW)=>aS (λ(_:xW×xW)=>aS (λ(_:xW×xW)=>O (0,0)) λu=>aZ (λv((b,_):Int×xW)=>bif b<a.ab.length then(Su N (a,b)).bind λl=>bif !(l==0)then O (Wk.wrap ((Wk.wrap ((Wk.wrap (1+(a.bl.length:Int)))+(a.bj.length:Int)))+b),l)else v (Wk.wrap (b+1),())else u ((),())) N (0,())) λy=>aZ (λz((c,_):Int×xW)=>bif c<a.bj.length then(Ss N (a,c)).bind λm=>bif !(m==0)then O (Wk.wrap ((Wk.wrap (1+(a.bl.length:Int)))+c),m)else z (Wk.wrap (c+1),())else y ((),())) N (0,())) λb0=>aZ (λh((d,_):Int×xW)=>bif d<a.bl.length then(Sr N (a,d)).bind λn=>bif !(n==0)then O (Wk.wrap (1+d),n)else h (Wk.wrap (d+1),())else b0 ((),())) N (0,())else bif a.de==a.name then O (0,43)else aS (λ(_:xW×xW)=>aS (λ(_:xW×xW)=>aS (λ(_:xW×xW)=>O (0,0)) λq=>aZ (λw((e,_):Int×xW)=>bif e<a.ab.length then(Su N (a,e)).bind λo=>bif !(o==0)then O (Wk.wrap ((Wk.wrap ((Wk.wrap (1+(a.bl.length:Int)))+(a.bj.length:Int)))+e),o)else w (Wk.wrap (e+1),())else q ((),())) N (0,())) λx=>aZ (λm0((f,_):Int×xW)=>bif f<a.bj.length then(Ss N (a,f)).bind λp=>bif !(p==0)then O (Wk.wrap ((Wk.wrap (1+(a.bl.length:Int)))+f),p)else m0 (Wk.wrap (f+1),())else x ((),())) N (0,())) λA=>aZ (λB((g,_):Int×xW)=>bif g<a.bl.length then(Sr N (a,g)).bind λr=>bif !(r==0)then O (Wk.wrap (1+g),r)else B (Wk.wrap (g+1),())else A ((),())) N (0,())) λC=>aZ (λD((j,_):Int×xW)=>bif j<i then(aR k.br j).bind λE=>bif E.name==a.name then O (0,40)else D (Wk.wrap (j+1),())else C ((),())) N (0,())
abbrev K86:b7 U:=⟨[ahy,.I],[.v .I,.v .I],Y,.pure (F86 N)⟩
def G86:Holds 86 (K86 N):=gP N f86 (.q (.q (.q (.q (.seq (O ⟨F,[6],[],[6],[]⟩) (.q (.block (.loop ⟨F,[1,2,6],[(7,.val .I)],[2,6],[]⟩ .aC))) (.q (.q (.seq (O ⟨F,[6],[],[6],[]⟩) (.q (.block (.loop ⟨F,[6],[(8,.val .I)],[6],[]⟩ .aC))) (.seq (O ⟨F,[6],[],[6],[]⟩) (.q (.block (.loop ⟨F,[6],[(10,.val .I)],[6],[]⟩ .aC))) (.J (.q (.block (.loop ⟨F,[6],[(12,.val .I)],[6],[]⟩ .aC))) .aC)))))))))) (cn (Sp N) (cn (afX N) (cn (afZ N) (cn (af1 N) nl))))
def F87:cW×Int->V Int:=λ(f,c)=>(aR f.dx c).bind λa=>bif 256<=c then O 4 else(GN N a.aw).bind λg=>bif !g then O 2 else(GN N a.name).bind λi=>bif !i then O 2 else aS (λ(_:xW×xW)=>bif 4096<(a.Lb.length:Int)then O 3 else O 0) λj=>aZ (λd((b,_):Int×xW)=>bif b<c then(aR f.dx b).bind λe=>bif e.aw==a.aw then bif e.name==a.name then bif (e.scope==a.scope)then O 40 else d (Wk.wrap (b+1),())else d (Wk.wrap (b+1),())else d (Wk.wrap (b+1),())else j ((),())) N (0,())
abbrev K87:b7 U:=⟨[ahy,.I],[.v .I],Y,.pure (F87 N)⟩
def G87:Holds 87 (K87 N):=gP N f87 (.q (.q (.q (.q (.seq (O ⟨F,[5],[],[5],[]⟩) (.q (.block (.loop ⟨F,[1,2,5],[(6,.val .I)],[2,5],[]⟩ .aC))) .aC))))) (cn (Sp N) nl)
def VB:Z kI->V tl:=λb=>aS (λ((i,_):Int×xW)=>O (i==(b.length:Int))) λj=>aZ (λk(((a,d),_):((Z Int)×Int)×xW)=>bif 0<(a.length:Int)then(aR a (Wk.wrap ((a.length:Int)-1))).bind λc=>(cR (decide (0<=Wk.wrap ((a.length:Int)-1))&&decide ((Wk.wrap ((a.length:Int)-1)).toNat<=a.length))).bind λ_=>bif !(c==d)then O F else bif (b.length:Int)<=c then O F else(aR b c).bind λl=>bif (b.length:Int)<(l.args.length:Int)then O F else(aR b c).bind λm=>aZ (λn(((e,f),_):((Z Int)×Int)×xW)=>bif 0<=f then(aR b c).bind λo=>(aR o.args f).bind λg=>(cR (cE 8 (e.length+[g].length) 140737488355328)).bind λ_=>n ((e++[g],Wk.wrap (f-1)),())else k ((e,Wk.wrap (d+1)),())) N ((a.take ((Wk.wrap ((a.length:Int)-1)).toNat),Wk.wrap ((m.args.length:Int)-1)),())else j (d,())) N (([0],0),())
abbrev af2:b7 U:=⟨[ahF],[.v .bool],Y,.pure (VB N)⟩
def af3:Holds 242 (af2 N):=gP N f242 (.q (.q (.q (.seq (O ⟨F,[0],[(4,.val .I)],[],[]⟩) (.block (.w [0] [(3,.bU 3 .I 3),(4,.val .I)] (.q (.block (.q (.q (.q (.q (.W [0,4,5,26,27,28,29,32,33,34,35,36,37,38,39,40] [(3,.bU 3 .I 3),(6,.val .I)]))))))))) .aC)))) nl
def Sv:Z kI->V Int:=λd=>bif 64<(d.length:Int)then O 4 else aS (λ(_:xW×xW)=>(VB N d).bind λe=>bif !e then O 2 else O 0) λf=>aZ (λc((b,_):Int×xW)=>bif b<d.length then(aR d b).bind λa=>bif a.kind<1 then O 2 else bif 5<a.kind then O 2 else bif a.kind==1 then bif !(a.name==[])then O 2 else bif !(a.kind==1)then(GN N a.name).bind λg=>bif !g then O 2 else bif a.num<0 then O 2 else bif !(a.kind==2)then bif !(a.num==0)then O 2 else bif !(a.kind==4)then bif 0<(a.args.length:Int)then O 2 else c (Wk.wrap (b+1),())else c (Wk.wrap (b+1),())else bif !(a.kind==4)then bif 0<(a.args.length:Int)then O 2 else c (Wk.wrap (b+1),())else c (Wk.wrap (b+1),())else bif a.num<0 then O 2 else bif !(a.kind==2)then bif !(a.num==0)then O 2 else bif !(a.kind==4)then bif 0<(a.args.length:Int)then O 2 else c (Wk.wrap (b+1),())else c (Wk.wrap (b+1),())else bif !(a.kind==4)then bif 0<(a.args.length:Int)then O 2 else c (Wk.wrap (b+1),())else c (Wk.wrap (b+1),())else bif !(a.kind==1)then(GN N a.name).bind λi=>bif !i then O 2 else bif a.num<0 then O 2 else bif !(a.kind==2)then bif !(a.num==0)then O 2 else bif !(a.kind==4)then bif 0<(a.args.length:Int)then O 2 else c (Wk.wrap (b+1),())else c (Wk.wrap (b+1),())else bif !(a.kind==4)then bif 0<(a.args.length:Int)then O 2 else c (Wk.wrap (b+1),())else c (Wk.wrap (b+1),())else bif a.num<0 then O 2 else bif !(a.kind==2)then bif !(a.num==0)then O 2 else bif !(a.kind==4)then bif 0<(a.args.length:Int)then O 2 else c (Wk.wrap (b+1),())else c (Wk.wrap (b+1),())else bif !(a.kind==4)then bif 0<(a.args.length:Int)then O 2 else c (Wk.wrap (b+1),())else c (Wk.wrap (b+1),())else f ((),())) N (0,())
abbrev af4:b7 U:=⟨[ahF],[.v .I],Y,.pure (Sv N)⟩
def af5:Holds 189 (af4 N):=gP N f189 (.q (.q (.seq (O ⟨F,[0],[],[],[]⟩) (.W [0] [(3,.val .I)]) .aC))) (cn (Sp N) (cn (af3 N) nl))
def F88:cV×Int->V (Int×Int):=λ(a,d)=>bif 256<=d then O (0,4)else(GN N a.aw).bind λe=>bif !e then O (0,2)else(Sv N a.left).bind λb=>bif !(b==0)then O (1,b)else(Sv N a.right).bind λc=>bif !(c==0)then O (2,c)else O (0,0)
abbrev K88:b7 U:=⟨[ahS,.I],[.v .I,.v .I],Y,.pure (F88 N)⟩
def G88:Holds 88 (K88 N):=gP N f88 .aC (cn (Sp N) (cn (af5 N) nl))
def F89:cW×Int->V (Int×Int):=λ(e,c)=>(aR e.dv c).bind λb=>bif 256<=c then O (0,4)else(GN N b.aw).bind λf=>bif !f then O (0,2)else aS (λ(_:xW×xW)=>bif 64<(b.cells.length:Int)then O (65,4)else aS (λ(_:xW×xW)=>O (0,0)) λg=>aZ (λi((a,_):Int×xW)=>bif a<b.cells.length then(aR b.cells a).bind λj=>bif j.kind<1 then O (Wk.wrap (a+1),2)else(aR b.cells a).bind λk=>bif 6<k.kind then O (Wk.wrap (a+1),2)else(aR b.cells a).bind λl=>(aR b.cells a).bind λm=>bif 4096<Wk.wrap ((l.text.length:Int)+(m.mark.length:Int))then O (Wk.wrap (a+1),3)else i (Wk.wrap (a+1),())else g ((),())) N (0,())) λn=>aZ (λo((d,_):Int×xW)=>bif d<c then(aR e.dv d).bind λp=>bif p.aw==b.aw then O (0,40)else o (Wk.wrap (d+1),())else n ((),())) N (0,())
abbrev K89:b7 U:=⟨[ahy,.I],[.v .I,.v .I],Y,.pure (F89 N)⟩
def G89:Holds 89 (K89 N):=gP N f89 (.q (.q (.q (.q (.seq (O ⟨F,[6],[],[6],[]⟩) (.q (.block (.loop ⟨F,[1,2,6],[(7,.val .I)],[2,6],[]⟩ .aC))) (.q (.J (.q (.block (.loop ⟨F,[6],[(8,.val .I)],[6],[]⟩ .aC))) .aC))))))) (cn (Sp N) nl)
def F90:cW×Int->V (Int×Int):=λ(e,c)=>(aR e.ch c).bind λb=>bif 256<=c then O (0,4)else(GN N b.aw).bind λf=>bif !f then O (0,2)else aS (λ(_:xW×xW)=>bif 64<(b.eb.length:Int)then O (65,4)else aS (λ(_:xW×xW)=>O (0,0)) λg=>aZ (λi((a,_):Int×xW)=>bif a<b.eb.length then(aR b.eb a).bind λj=>bif j.kind<1 then O (Wk.wrap (a+1),2)else(aR b.eb a).bind λk=>bif 5<k.kind then O (Wk.wrap (a+1),2)else(aR b.eb a).bind λl=>(aR b.eb a).bind λm=>bif 4096<Wk.wrap ((l.text.length:Int)+(m.mark.length:Int))then O (Wk.wrap (a+1),3)else i (Wk.wrap (a+1),())else g ((),())) N (0,())) λn=>aZ (λo((d,_):Int×xW)=>bif d<c then(aR e.ch d).bind λp=>bif p.aw==b.aw then O (0,40)else o (Wk.wrap (d+1),())else n ((),())) N (0,())
abbrev K90:b7 U:=⟨[ahy,.I],[.v .I,.v .I],Y,.pure (F90 N)⟩
def G90:Holds 90 (K90 N):=gP N f90 (.q (.q (.q (.q (.seq (O ⟨F,[6],[],[6],[]⟩) (.q (.block (.loop ⟨F,[1,2,6],[(7,.val .I)],[2,6],[]⟩ .aC))) (.q (.J (.q (.block (.loop ⟨F,[6],[(8,.val .I)],[6],[]⟩ .aC))) .aC))))))) (cn (Sp N) nl)
def F36:cW->V gW:=λa=>(GN N a.name).bind λo=>bif !o then(Sq N (0,0,0,2)).bind λp=>O p else bif a.version<1 then(Sq N (0,1,0,2)).bind λr=>O r else aS (λ(_:xW×xW)=>aS (λ(_:xW×xW)=>aS (λ(_:xW×xW)=>aS (λ(_:xW×xW)=>aS (λ(_:xW×xW)=>aS (λ(_:xW×xW)=>O (gW.mk 0 0 0 0)) λs=>aZ (λt((c,_):Int×xW)=>bif c<a.ch.length then(F90 N (a,c)).bind λi=>bif !(i.2==0)then(Sq N (6,c,i.1,i.2)).bind λu=>O u else t (Wk.wrap (c+1),())else s ((),())) N (0,())) λv=>aZ (λy((d,_):Int×xW)=>bif d<a.dv.length then(F89 N (a,d)).bind λj=>bif !(j.2==0)then(Sq N (5,d,j.1,j.2)).bind λz=>O z else y (Wk.wrap (d+1),())else v ((),())) N (0,())) λb0=>aZ (λh((b,_):Int×xW)=>bif b<a.equations.length then(aR a.equations b).bind λq=>(F88 N (q,b)).bind λk=>bif !(k.2==0)then(Sq N (4,b,k.1,k.2)).bind λw=>O w else h (Wk.wrap (b+1),())else b0 ((),())) N (0,())) λx=>aZ (λm0((e,_):Int×xW)=>bif e<a.dx.length then(F87 N (a,e)).bind λm=>bif !(m==0)then(Sq N (3,e,0,m)).bind λA=>O A else m0 (Wk.wrap (e+1),())else x ((),())) N (0,())) λB=>aZ (λC((f,_):Int×xW)=>bif f<a.br.length then(F86 N (a,f)).bind λl=>bif !(l.2==0)then(Sq N (2,f,l.1,l.2)).bind λD=>O D else C (Wk.wrap (f+1),())else B ((),())) N (0,())) λE=>aZ (λG((g,_):Int×xW)=>bif g<a.pZ.length then(F85 N (a,g)).bind λn=>bif !(n==0)then(Sq N (1,g,0,n)).bind λv0=>O v0 else G (Wk.wrap (g+1),())else E ((),())) N (0,())
abbrev K36:b7 U:=⟨[ahy],[.v ahN],Y,.pure (F36 N)⟩
def G36:Holds 36 (K36 N):=gP N f36 (.q (.q (.q (.seq (O ⟨F,[1,2],[],[1,2],[]⟩) (.q (.block (.loop ⟨F,[1,2],[(3,.val .I)],[1,2],[]⟩ .aC))) (.seq (O ⟨F,[1,2],[],[1,2],[]⟩) (.q (.block (.loop ⟨F,[1,2],[(5,.val .I)],[1,2],[]⟩ .aC))) (.seq (O ⟨F,[1,2],[],[1,2],[]⟩) (.q (.block (.loop ⟨F,[1,2],[(8,.val .I)],[1,2],[]⟩ .aC))) (.seq (O ⟨F,[1,2],[],[1,2],[]⟩) (.q (.block (.loop ⟨F,[1,2],[(10,.val .I)],[1,2],[]⟩ .aC))) (.seq (O ⟨F,[1,2],[],[1,2],[]⟩) (.q (.block (.loop ⟨F,[1,2],[(13,.val .I)],[1,2],[]⟩ .aC))) (.seq (O ⟨F,[2],[],[2],[]⟩) (.q (.block (.loop ⟨F,[1,2],[(16,.val .I)],[1,2],[]⟩ .aC))) .aC))))))))) (cn (Sp N) (cn (G84 N) (cn (G85 N) (cn (G86 N) (cn (G87 N) (cn (G88 N) (cn (G89 N) (cn (G90 N) nl))))))))
def VC:cW×cI->V (dt×tl):=λ(b,c)=>aS (λ(_:xW×xW)=>O (dt.mk [] [] F [] [] [],F)) λd=>aZ (λe((a,_):Int×xW)=>bif a<b.br.length then(aR b.br a).bind λf=>bif f.name==c then(aR b.br a).bind λg=>O (g,W)else e (Wk.wrap (a+1),())else d ((),())) N (0,())
abbrev af6:b7 U:=⟨[ahy,.str],[.v ahw,.v .bool],Y,.pure (VC N)⟩
def af7:Holds 190 (af6 N):=gP N f190 (.q (.seq (O ⟨F,[4],[],[4],[]⟩) (.q (.block (.loop ⟨F,[1,2,4],[(6,.val .I)],[2,4],[]⟩ .aC))) .aC)) nl
def OY:(Z cW)×cI->V (dt×Int×tl):=λ(b,d)=>aS (λ(_:xW×xW)=>O (dt.mk [] [] F [] [] [],0,F)) λe=>aZ (λf((a,_):Int×xW)=>bif a<b.length then(aR b a).bind λg=>(VC N (g,d)).bind λc=>bif c.2 then O (c.1,a,W)else f (Wk.wrap (a+1),())else e ((),())) N (0,())
abbrev K91:b7 U:=⟨[aht,.str],[.v ahw,.v .I,.v .bool],Y,.pure (OY N)⟩
def Zl:Holds 91 (K91 N):=gP N f91 (.q (.seq (O ⟨F,[4],[],[4],[]⟩) (.q (.block (.loop ⟨F,[0,1,4],[(7,.val .I)],[4],[]⟩ .aC))) .aC)) (cn (af7 N) nl)
def F37:(Z cW)×Int×Int->V (Int×Int):=λ(a,b,d)=>aS (λ((f,_):Int×xW)=>bif 128<=f then O (0,4)else(aR a b).bind λg=>(aR g.br d).bind λi=>(OY N (a,i.name)).bind λj=>bif j.2.1<b then O (0,40)else O (0,0)) λk=>aZ (λl(((e,c),_):(Int×Int)×xW)=>bif c<b then(aR a c).bind λm=>l ((Wk.wrap (e+(m.br.length:Int)),Wk.wrap (c+1)),())else k (e,())) N ((d,0),())
abbrev K37:b7 U:=⟨[aht,.I,.I],[.v .I,.v .I],Y,.pure (F37 N)⟩
def G37:Holds 37 (K37 N):=gP N f37 (.q (.q (.seq (O ⟨F,[0,1,2],[(8,.val .I)],[],[]⟩) (.W [0,1,2] [(8,.val .I),(9,.val .I)]) .aC))) (cn (Zl N) nl)
def Zm:(Z cW)×cI->V (Z dt):=λ(e,m)=>(OY N (e,m)).bind λa=>aS (λ((n,_):(Z dt)×xW)=>O n) λf=>aZ (λo(((c,p,g,d,i,j,k,l),_):((Z dt)×tl×cI×cI×tl×(Z eR)×(Z gp)×(Z fH))×xW)=>bif p then bif (c.length:Int)<=128 then(cR (cE 112 (c.length+[dt.mk g d i j k l].length) 140737488355328)).bind λ_=>(OY N (e,d)).bind λb=>o ((c++[dt.mk g d i j k l],b.2.2,b.1.name,b.1.de,b.1.lO,b.1.bl,b.1.bj,b.1.ab),())else f (c,())else f (c,())) N (([],a.2.2,a.1.name,a.1.de,a.1.lO,a.1.bl,a.1.bj,a.1.ab),())
abbrev K92:b7 U:=⟨[aht,.str],[.bU ahw 150],Y,.pure (Zm N)⟩
def G92:Holds 92 (K92 N):=gP N f92 (.q (.q (.q (.seq (O ⟨F,[],[(5,.bU 5 ahw 150)],[],[]⟩) (.block (.loop ⟨F,[0,6],[(5,.bU 5 ahw 150),(8,.val .bool)],[],[(6,.cells ahw [.val .str,.val .str,.val .bool,.val ahU,.val ahV,.val ahW])]⟩ .aC)) .aC)))) (cn (Zl N) nl)
def F38:(Z cW)×Int×Int->V (Int×Int):=λ(b,g,i)=>(aR b g).bind λj=>(aR j.br i).bind λa=>(OY N (b,a.de)).bind λk=>bif !(a.de==[])then bif !k.2.2 then O (0,42)else(Zm N (b,a.name)).bind λe=>aS (λ(_:xW×xW)=>O (0,0)) λl=>aZ (λm((c,_):Int×xW)=>bif c<e.length then(aR e c).bind λn=>bif n.name==a.name then O (0,43)else m (Wk.wrap (c+1),())else l ((),())) N (1,())else(Zm N (b,a.name)).bind λf=>aS (λ(_:xW×xW)=>O (0,0)) λo=>aZ (λp((d,_):Int×xW)=>bif d<f.length then(aR f d).bind λr=>bif r.name==a.name then O (0,43)else p (Wk.wrap (d+1),())else o ((),())) N (1,())
abbrev K38:b7 U:=⟨[aht,.I,.I],[.v .I,.v .I],Y,.pure (F38 N)⟩
def G38:Holds 38 (K38 N):=gP N f38 (.q (.q (.q (.q (.q (.J (.q (.block (.loop ⟨F,[8,12],[(13,.val .I)],[8,12],[]⟩ .aC))) .aC)))))) (cn (Zl N) (cn (G92 N) nl))
def Y3:(Z cW)×cI->V dt:=λ(m,n)=>(Zm N (m,n)).bind λa=>(aR a 0).bind λo=>(aR a 0).bind λp=>(aR a 0).bind λr=>aS (λ(((s,t,u,v,y,z),_):(cI×cI×tl×(Z eR)×(Z gp)×(Z fH))×xW)=>O (dt.mk s t u v y z)) λb0=>aZ (λh(((b,f,g,i,c,d,e),_):(Int×cI×cI×tl×(Z eR)×(Z gp)×(Z fH))×xW)=>bif 0<=b then(aR a b).bind λj=>(cR (cE 24 (c.length+j.bl.length) 140737488355328)).bind λ_=>(aR a b).bind λk=>(cR (cE 48 (d.length+k.bj.length) 140737488355328)).bind λ_=>(aR a b).bind λl=>(cR (cE 40 (e.length+l.ab.length) 140737488355328)).bind λ_=>h ((Wk.wrap (b-1),f,g,i,c++j.bl,d++k.bj,e++l.ab),())else b0 ((f,g,i,c,d,e),())) N ((Wk.wrap ((a.length:Int)-1),o.name,p.de,r.lO,[],[],[]),())
abbrev K93:b7 U:=⟨[aht,.str],[.v ahw],Y,.pure (Y3 N)⟩
def G93:Holds 93 (K93 N):=gP N f93 (.q (.q (.q (.seq (O ⟨F,[4,6],[],[4],[(6,.cells ahw [.val .str,.val .str,.val .bool,.bU 500603 ahQ 163,.bU 500604 ahR 165,.bU 500605 ahJ 167])]⟩) (.q (.block (.loop ⟨F,[4,5,6],[(7,.val .I)],[4,5],[(6,.cells ahw [.val .str,.val .str,.val .bool,.bU 500603 ahQ 163,.bU 500604 ahR 165,.bU 500605 ahJ 167])]⟩ .aC))) .aC)))) (cn (G92 N) nl) [(23,999)]
def F39:(Z cW)×Int×Int->V (Int×Int):=λ(f,n,o)=>(aR f n).bind λp=>(aR p.br o).bind λg=>(Y3 N (f,g.name)).bind λa=>aS (λ((r,_):Int×xW)=>aS (λ((s,_):Int×xW)=>aS (λ(_:xW×xW)=>O (0,0)) λt=>aZ (λu(((i,b),_):(Int×Int)×xW)=>bif b<a.ab.length then bif 32<=b then O (Wk.wrap (i+1),4)else aS (λ(_:xW×xW)=>(aR a.ab b).bind λv=>(OY N (f,v.aw)).bind λy=>bif !y.2.2 then O (Wk.wrap (i+1),42)else u ((Wk.wrap (i+1),Wk.wrap (b+1)),())) λz=>aZ (λb0((k,_):Int×xW)=>bif k<b then(aR a.ab k).bind λh=>(aR a.ab b).bind λq=>bif h.role==q.role then O (Wk.wrap (i+1),40)else b0 (Wk.wrap (k+1),())else z ((),())) N (0,())else t ((),())) N ((s,Wk.wrap ((a.ab.length:Int)-(g.ab.length:Int))),())) λw=>aZ (λx(((d,c),_):(Int×Int)×xW)=>bif c<a.bj.length then bif 32<=c then O (Wk.wrap (d+1),4)else aS (λ(_:xW×xW)=>(aR a.bj c).bind λm0=>(OY N (f,m0.aw)).bind λA=>bif !A.2.2 then O (Wk.wrap (d+1),42)else x ((Wk.wrap (d+1),Wk.wrap (c+1)),())) λB=>aZ (λC((l,_):Int×xW)=>bif l<c then(aR a.bj l).bind λD=>(aR a.bj c).bind λE=>bif D.role==E.role then O (Wk.wrap (d+1),40)else C (Wk.wrap (l+1),())else B ((),())) N (0,())else w (d,())) N ((r,Wk.wrap ((a.bj.length:Int)-(g.bj.length:Int))),())) λG=>aZ (λv0(((j,e),_):(Int×Int)×xW)=>bif e<a.bl.length then aS (λ((w0,_):Int×xW)=>v0 ((w0,Wk.wrap (e+1)),())) λH=>bif 32<=e then O (Wk.wrap (j+1),4)else aZ (λI((m,_):Int×xW)=>bif m<e then(aR a.bl m).bind λJ=>(aR a.bl e).bind λK=>bif J.name==K.name then O (Wk.wrap (j+1),40)else I (Wk.wrap (m+1),())else H (Wk.wrap (j+1),())) N (0,())else G (j,())) N ((0,Wk.wrap ((a.bl.length:Int)-(g.bl.length:Int))),())
abbrev K39:b7 U:=⟨[aht,.I,.I],[.v .I,.v .I],Y,.pure (F39 N)⟩
def G39:Holds 39 (K39 N):=gP N f39 (.q (.q (.q (.q (.seq (O ⟨F,[0,8,9],[(10,.val .I)],[8,9],[]⟩) (.q (.block (.loop ⟨F,[0,8,9],[(10,.val .I),(11,.val .I)],[8,9],[]⟩ (.q (.seq (O ⟨F,[0,8,9,11],[(10,.val .I)],[8,9],[]⟩) (.block (.q (.q (.q (.block (.loop ⟨F,[0,8,9,10,11],[(12,.val .I)],[8,9],[]⟩ .aC)))))) .aC))))) (.seq (O ⟨F,[0,8,9],[(10,.val .I)],[8,9],[]⟩) (.q (.block (.loop ⟨F,[0,8,9],[(10,.val .I),(13,.val .I)],[8,9],[]⟩ (.q (.seq Y (.block (.q (.q (.seq (O ⟨F,[0,8,9,10,13],[],[8,9],[]⟩) (.q (.block (.loop ⟨F,[0,8,9,10,13],[(14,.val .I)],[8,9],[]⟩ .aC))) .aC)))) .aC))))) (.J (.q (.block (.loop ⟨F,[0,9],[(10,.val .I),(18,.val .I)],[9],[]⟩ (.q (.seq Y (.block (.q (.q (.seq (O ⟨F,[0,9,10,18],[],[9],[]⟩) (.q (.block (.loop ⟨F,[0,9,10,18],[(19,.val .I)],[9],[]⟩ .aC))) .aC)))) .aC))))) .aC))))))) (cn (Zl N) (cn (G93 N) nl))
def F94:(Z cW)×Int×Int->V Int:=λ(b,i,n)=>(aR b i).bind λo=>(aR o.dx n).bind λa=>(OY N (b,a.aw)).bind λp=>bif !p.2.2 then O 42 else aS (λ(_:xW×xW)=>aS (λ(_:xW×xW)=>O 0) λr=>aZ (λs((d,_):Int×xW)=>bif d<i then aS (λ(_:xW×xW)=>s (Wk.wrap (d+1),())) λt=>aZ (λf((c,_):Int×xW)=>(aR b d).bind λu=>bif c<u.dx.length then(aR b d).bind λv=>(aR v.dx c).bind λg=>bif g.aw==a.aw then bif g.name==a.name then bif (g.scope==a.scope)then O 40 else f (Wk.wrap (c+1),())else f (Wk.wrap (c+1),())else f (Wk.wrap (c+1),())else t ((),())) N (0,())else r ((),())) N (0,())) λj=>bif a.scope then(Y3 N (b,a.aw)).bind λk=>aS (λ((y,_):tl×xW)=>bif !y then O 42 else j ((),())) λz=>aZ (λl(((m,e),_):(tl×Int)×xW)=>bif e<k.ab.length then bif m then l ((W,Wk.wrap (e+1)),())else(aR k.ab e).bind λb0=>l ((b0.role==a.name,Wk.wrap (e+1)),())else z (m,())) N ((F,0),())else j ((),())
abbrev K94:b7 U:=⟨[aht,.I,.I],[.v .I],Y,.pure (F94 N)⟩
def G94:Holds 94 (K94 N):=gP N f94 (.q (.q (.q (.q (.seq (O ⟨F,[0,1,7],[],[7],[]⟩) (.q (.cond (.q (.q (.seq (O ⟨F,[0,1,7],[(12,.val .bool)],[7],[]⟩) (.q (.block (.loop ⟨F,[0,1,7,11],[(12,.val .bool),(13,.val .I)],[7,11],[]⟩ .aC))) .aC))) .aC)) (.J (.q (.block (.loop ⟨F,[0,1,7],[(14,.val .I)],[7],[]⟩ (.q (.seq (O ⟨F,[0,1,7,14],[],[7],[]⟩) (.block (.q (.block (.loop ⟨F,[0,1,7,14],[(15,.val .I)],[7],[]⟩ .aC)))) .aC))))) .aC)))))) (cn (Zl N) (cn (G93 N) nl))
def F40:(Z cW)×Int->V gW:=λ(b,a)=>(aR b a).bind λc=>aS (λ(_:xW×xW)=>aS (λ(_:xW×xW)=>aS (λ(_:xW×xW)=>aS (λ(_:xW×xW)=>O (gW.mk 0 0 0 0)) λp=>aZ (λr((d,_):Int×xW)=>bif d<c.ch.length then aS (λ(_:xW×xW)=>r (Wk.wrap (d+1),())) λs=>(aR c.ch d).bind λm=>(OY N (b,m.aw)).bind λt=>bif !t.2.2 then(Ps N (a,6,d,0,42)).bind λu=>O u else aZ (λv((f,_):Int×xW)=>bif f<a then aS (λ(_:xW×xW)=>v (Wk.wrap (f+1),())) λy=>aZ (λz((k,_):Int×xW)=>(aR b f).bind λb0=>bif k<b0.ch.length then(aR b f).bind λh=>(aR h.ch k).bind λq=>bif q.aw==m.aw then(Ps N (a,6,d,0,40)).bind λw=>O w else z (Wk.wrap (k+1),())else y ((),())) N (0,())else s ((),())) N (0,())else p ((),())) N (0,())) λx=>aZ (λm0((e,_):Int×xW)=>bif e<c.dv.length then aS (λ(_:xW×xW)=>m0 (Wk.wrap (e+1),())) λA=>(aR c.dv e).bind λn=>(OY N (b,n.aw)).bind λB=>bif !B.2.2 then(Ps N (a,5,e,0,42)).bind λC=>O C else aZ (λD((g,_):Int×xW)=>bif g<a then aS (λ(_:xW×xW)=>D (Wk.wrap (g+1),())) λE=>aZ (λG((l,_):Int×xW)=>(aR b g).bind λv0=>bif l<v0.dv.length then(aR b g).bind λw0=>(aR w0.dv l).bind λH=>bif H.aw==n.aw then(Ps N (a,5,e,0,40)).bind λI=>O I else G (Wk.wrap (l+1),())else E ((),())) N (0,())else A ((),())) N (0,())else x ((),())) N (0,())) λJ=>aZ (λK((i,_):Int×xW)=>bif i<c.equations.length then(aR c.equations i).bind λL=>(OY N (b,L.aw)).bind λP=>bif !P.2.2 then(Ps N (a,4,i,0,42)).bind λQ=>O Q else K (Wk.wrap (i+1),())else J ((),())) N (0,())) λR=>aZ (λS((j,_):Int×xW)=>bif j<c.dx.length then(F94 N (b,a,j)).bind λo=>bif !(o==0)then(Ps N (a,3,j,0,o)).bind λT=>O T else S (Wk.wrap (j+1),())else R ((),())) N (0,())
abbrev K40:b7 U:=⟨[aht,.I],[.v ahN],Y,.pure (F40 N)⟩
def G40:Holds 40 (K40 N):=gP N f40 (.q (.q (.seq (O ⟨F,[0,1,4,5],[],[4,5],[]⟩) (.q (.block (.loop ⟨F,[0,1,4,5],[(6,.val .I)],[4,5],[]⟩ .aC))) (.seq (O ⟨F,[0,1,4,5],[],[4,5],[]⟩) (.q (.block (.loop ⟨F,[0,1,4,5],[(8,.val .I)],[4,5],[]⟩ .aC))) (.seq (O ⟨F,[0,1,4,5],[],[4,5],[]⟩) (.q (.block (.loop ⟨F,[0,1,4,5],[(12,.val .I)],[4,5],[]⟩ (.q (.seq (O ⟨F,[0,1,4,5,12],[],[4,5],[]⟩) (.block (.q (.q (.q (.q (.block (.loop ⟨F,[0,1,4,5,12,13],[(17,.val .I)],[4,5],[]⟩ (.q (.seq (O ⟨F,[0,1,4,5,12,13,17],[],[4,5],[]⟩) (.block (.q (.block (.loop ⟨F,[0,1,4,5,12,13,17],[(18,.val .I)],[4,5],[]⟩ .aC)))) .aC))))))))) .aC))))) (.seq (O ⟨F,[4],[],[4],[]⟩) (.q (.block (.loop ⟨F,[0,1,4,5],[(19,.val .I)],[4,5],[]⟩ (.q (.seq (O ⟨F,[0,1,4,5,19],[],[4,5],[]⟩) (.block (.q (.q (.q (.q (.block (.loop ⟨F,[0,1,4,5,19,20],[(24,.val .I)],[4,5],[]⟩ (.q (.seq (O ⟨F,[0,1,4,5,19,20,24],[],[4,5],[]⟩) (.block (.q (.block (.loop ⟨F,[0,1,4,5,19,20,24],[(25,.val .I)],[4,5],[]⟩ .aC)))) .aC))))))))) .aC))))) .aC)))))) (cn (G35 N) (cn (Zl N) (cn (G94 N) nl)))
def F20:Z cW->V gW:=λa=>bif 128<(a.length:Int)then(Ps N (128,0,0,0,4)).bind λr=>O r else aS (λ(_:xW×xW)=>aS (λ(_:xW×xW)=>aS (λ(_:xW×xW)=>aS (λ(_:xW×xW)=>O (gW.mk 0 0 0 0)) λs=>aZ (λt((i,_):Int×xW)=>bif i<a.length then(F40 N (a,i)).bind λl=>bif !(l.gd==0)then O l else t (Wk.wrap (i+1),())else s ((),())) N (0,())) λu=>aZ (λv((f,_):Int×xW)=>bif f<3 then aS (λ(_:xW×xW)=>v (Wk.wrap (f+1),())) λy=>aZ (λz((b,_):Int×xW)=>bif b<a.length then aS (λ(_:xW×xW)=>z (Wk.wrap (b+1),())) λb0=>aZ (λh((c,_):Int×xW)=>(aR a b).bind λq=>bif c<q.br.length then aS (λ(((w,m),_):(Int×Int)×xW)=>bif !(m==0)then(Ps N (b,2,c,w,m)).bind λx=>O x else h (Wk.wrap (c+1),())) λj=>bif f==0 then(F37 N (a,b,c)).bind λn=>j ((n.1,n.2),())else bif f==1 then(F38 N (a,b,c)).bind λo=>j ((o.1,o.2),())else(F39 N (a,b,c)).bind λp=>j ((p.1,p.2),())else b0 ((),())) N (0,())else y ((),())) N (0,())else u ((),())) N (0,())) λm0=>aZ (λA((d,_):Int×xW)=>bif d<a.length then aS (λ(_:xW×xW)=>A (Wk.wrap (d+1),())) λB=>aZ (λC((k,_):Int×xW)=>bif k<d then(aR a k).bind λD=>(aR a d).bind λE=>bif D.name==E.name then(Ps N (d,0,0,0,40)).bind λG=>O G else C (Wk.wrap (k+1),())else B ((),())) N (0,())else m0 ((),())) N (0,())) λv0=>aZ (λw0((g,_):Int×xW)=>bif g<a.length then(aR a g).bind λH=>(F36 N H).bind λe=>bif !(e.gd==0)then(Ps N (g,e.Wd,e.eB,e.part,e.gd)).bind λI=>O I else w0 (Wk.wrap (g+1),())else v0 ((),())) N (0,())
abbrev K20:b7 U:=⟨[aht],[.v ahN],Y,.pure (F20 N)⟩
def G20:Holds 20 (K20 N):=gP N f20 (.q (.q (.seq (O ⟨F,[0,2],[],[2],[]⟩) (.q (.block (.loop ⟨F,[0,2],[(3,.val .I)],[2],[]⟩ .aC))) (.seq (O ⟨F,[0,2],[],[2],[]⟩) (.q (.block (.loop ⟨F,[0,2],[(5,.val .I)],[2],[]⟩ (.q (.seq (O ⟨F,[0,2,5],[],[2],[]⟩) (.block (.q (.block (.loop ⟨F,[0,2,5],[(6,.val .I)],[2],[]⟩ .aC)))) .aC))))) (.seq (O ⟨F,[0,2],[],[2],[]⟩) (.q (.block (.loop ⟨F,[0,2],[(7,.val .I)],[2],[]⟩ (.q (.seq (O ⟨F,[0,2,7],[],[2],[]⟩) (.block (.q (.block (.loop ⟨F,[0,2,7],[(8,.val .I)],[2],[]⟩ (.q (.seq (O ⟨F,[0,2,7,8],[],[2],[]⟩) (.block (.q (.block (.loop ⟨F,[0,2,7,8],[(9,.val .I)],[2],[]⟩ (.q (.seq Y (.block (.q (.seq (O ⟨F,[0,2,7,8,9],[(10,.val .I),(11,.val .I)],[2],[]⟩) .aC .aC))) .aC)))))) .aC)))))) .aC))))) (.seq (O ⟨F,[2],[],[2],[]⟩) (.q (.block (.loop ⟨F,[0,2],[(12,.val .I)],[2],[]⟩ .aC))) .aC)))))) (cn (G35 N) (cn (G36 N) (cn (G37 N) (cn (G38 N) (cn (G39 N) (cn (G40 N) nl))))))
end
end Go.Proofs.Mo
