import Derived.Test.YticakdhfjeljkaaGreatDoorZ19
set_option linter.all false
set_option maxRecDepth 20000
open Option renaming some->O,none->Y
open Bool renaming true->W,false->F
open Go.Proofs.Tryz
noncomputable section
namespace Go.Proofs.Mo
open Go Go.Ev Go.X
open Go.IntKind renaming i64->Wk
section
variable(N:Nat)
def zQ(N:Nat):Int×Int×Int×Int×Int->V (V h9):=λ(a,b,c,d,e)=>O (O (h9.mk (Wk.wrap ((Wk.wrap (10*a))+b)) c d e))
abbrev K65:bZ U:=⟨[.I,.I,.I,.I,.I],[.v bf],Y,.pure (zQ N)⟩
def Yx:Holds 65 (K65 N):=gP N f65 .leaf nl
def aar:(Z dc)×(dc->V aa)->V Int:=λ(b,c)=>aG (λ(_:ab×ab)=>O (-1)) λd=>aQ (λe((a,_):Int×ab)=>bif a<b.length then(ax b a).bind λf=>(c f).bind λg=>bif g then O a else e (Wk.wrap (a+1),())else d ((),())) N (0,())
abbrev agw:bZ U:=⟨[aY,(.fn cg .bool)],[.v .I],Y,.pure (aar N)⟩
def agx:Holds 176 (agw N):=gP N f176 (.q (.J (.W [0,1,7] [(8,.val .I)]) .leaf)) nl
def F67:(Z dc)×(dc->V aa)->V aa:=λ(a,b)=>(aar N (a,b)).bind λc=>O (decide (0<=c))
abbrev K67:bZ U:=⟨[aY,(.fn cg .bool)],[.v .bool],Y,.pure (F67 N)⟩
def G67:Holds 67 (K67 N):=gP N f67 .leaf (cn (agx N) nl)
def F68(N:Nat):dc×dc->V aa:=λ(a,b)=>O (a.name==b.name)
abbrev K68:bZ U:=⟨[cg,fJ],[.v .bool],Y,.pure (F68 N)⟩
def G68:Holds 68 (K68 N):=gP N f68 .leaf nl
def F28:(V Nat)×(Z dc)->V (V h9):=λ(r,a)=>bif 128<(a.length:Int)then(zQ N (128,0,0,0,4)).bind λe=>O e else aG (λ(_:ab×ab)=>aG (λ(_:ab×ab)=>O Y) λf=>aQ (λg((b,_):Int×ab)=>bif b<a.length then(ax a b).bind λi=>(dv (decide (0<=b)&&decide (b.toNat<=a.length))).bind λ_=>(F67 N (a.take b.toNat,λj=>F68 N (j,i))).bind λk=>bif k then(zQ N (b,0,0,0,40)).bind λl=>O l else g (Wk.wrap (b+1),())else f ((),())) N (0,())) λm=>aQ (λn((d,_):Int×ab)=>bif d<a.length then(ax a d).bind λo=>(Bd N o).bind λc=>bif !(c.ka==0)then(zQ N (d,c.Yq,c.Ic,c.part,c.ka)).bind λp=>O p else n (Wk.wrap (d+1),())else m ((),())) N (0,())
abbrev K28:bZ U:=⟨[km,aY],[.v bf],Y,.pure (F28 N)⟩
def G28:Holds 28 (K28 N):=gP N f28 (.q (.q (.seq (O ⟨F,[1],[],[],[]⟩) (.W [1,14,15] [(16,.val .I)]) (.J (.W [1,37,38] [(39,.val .I)]) .leaf)))) (cn (Yx N) (cn (G66 N) (cn (G67 N) (cn (G68 N) nl))))
def F69:(Z dc)×(dc->V (Z dQ))×((Int×Int×dQ)->Hp->V ((V h9)×Hp))->Hp->V ((V h9)×Hp):=λ(d,i,j) h=>aG (λ((_,k):ab×Hp)=>O (Y,k)) λl=>aQ (λm((a,e):Int×Hp)=>bif a<d.length then aG (λ((_,n):ab×Hp)=>m (Wk.wrap (a+1),n)) λo=>(ax d a).bind λp=>(i p).bind λf=>aQ (λr((b,g):Int×Hp)=>bif b<f.length then(ax f b).bind λs=>(j (a,b,s) g).bind λc=>bif !c.1.isNone then O (c.1,c.2)else r (Wk.wrap (b+1),c.2)else o ((),g)) N (0,e)else l ((),e)) N (0,h)
abbrev K69:bZ U:=⟨[aY,(.fn cg ed),(.lP (.iz .I (.iz .I bQ)) bf)],[.v bf],Y,.st (F69 N)⟩
def G69:Holds 69 (K69 N):=gS N f69 (.q (.seq (O ⟨W,[],[],[],[]⟩) (.B ⟨W,[1,2,12,13],[(14,.val .I)],[],[]⟩ (.q (.q (.seq (O ⟨W,[1,2,12,13,14],[],[],[]⟩) (.block (.q (.B ⟨W,[1,2,7,12,13,14,21,22],[(23,.val .I)],[],[]⟩ .leaf))) .leaf)))) .leaf)) nl
def F70(N:Nat):dc->V (Z dQ):=λa=>O a.bC
abbrev K70:bZ U:=⟨[cg],[.v ed],Y,.pure (F70 N)⟩
def G70:Holds 70 (K70 N):=gP N f70 .leaf nl
def F71:Int×Int×dQ×(V Nat)×(Z dc)->Hp->V ((V h9)×Hp):=λ(f,l,a,b,r) h=>
 b.bind λs=>
 (h.fP[s]?).bind λt=>
 (dX h.jU t.pH).bind λu=>
 bif (u.length:Int)==128 then
  (zQ N (f,2,l,0,4)).bind λy=>
  O (y,h)
 else
  b.bind λz=>
  (h.fP[z]?).bind λb0=>
  (dX h.jU b0.pH).bind λm=>
  bif !((bp dz m a.name).getD Y).isNone then
   (zQ N (f,2,l,0,40)).bind λq=>
   O (q,h)
  else
   b.bind λv=>
   (h.fP[v]?).bind λw=>
   (ax r f).bind λx=>
   b.bind λm0=>
   (h.fP[m0]?).bind λA=>
   (dX h.jU A.pH).bind λB=>
   cw {h with zP:=h.zP++[[]]} λg=>
   cw {g with eY:=g.eY++[hJ.mk a x.name Y (B.length:Int) (O h.zP.length) Y Y [] [] F F]} λi=>
   w.pH.bind λn=>
   (i.jU[n]?).bind λC=>
   cw {i with jU:=i.jU.set n (fV dz C a.name (O g.eY.length))} λd=>
   b.bind λD=>
   (d.fP[D]?).bind λo=>
   (gH d.vx o.rm).bind λe=>
   (dv (cF 16 (e.length+[a.name].length) 140737488355328)).bind λ_=>
   cw {d with vx:=iK d.vx o.rm} λj=>
   b.bind λp=>
   (dv (!(e++[a.name]).isEmpty)).bind λ_=>
   cw {j with vx:=j.vx++[O (e++[a.name])]} λk=>
   (k.fP[p]?).bind λc=>
   cw {k with fP:=k.fP.set p (AM.mk c.pH (O (j.vx.length,(e++[a.name]).length)) (w6.mk (iO.mk) (w4.mk (iP.mk) c.ready.done.v) (qU.mk (iO.mk) c.ready.m.mu)) c.bits (Ib.mk (iP.mk) (nK.mk) c.ny.v))} λE=>
   O (Y,E)
abbrev K71:bZ U:=⟨[.I,.I,bQ,dH,et],[.v bf],Y,.st (F71 N)⟩
def G71:Holds 71 (K71 N):=gS N f71 .leaf (cn (Yx N) nl) [(46,4),(48,2)]
def F29:(V Nat)×(Z dc)->Hp->V ((V h9)×Hp):=λ(c,a) h=>(F69 N (a,λd=>F70 N d,λ(e,f,g) i=>F71 N (e,f,g,c,a) i) h).bind λb=>O (b.1,b.2)
abbrev K29:bZ U:=⟨[km,aY],[.v bf],Y,.st (F29 N)⟩
def G29:Holds 29 (K29 N):=gS N f29 .leaf (cn (G69 N) (cn (G70 N) (cn (G71 N) nl)))
def F72:Int×Int×dQ×(V Nat)->Hp->V ((V h9)×Hp):=λ(c,d,a,b) h=>bif !(a.dI==[])then b.bind λl=>(h.fP[l]?).bind λm=>(dX h.jU m.pH).bind λn=>bif ((bp dz n a.dI).getD Y).isNone then(zQ N (c,2,d,0,42)).bind λo=>O (o,h)else b.bind λp=>(h.fP[p]?).bind λr=>(dX h.jU r.pH).bind λs=>((bp dz s a.name).getD Y).bind λt=>(h.eY[t]?).bind λu=>aG (λ(_:ab×ab)=>O (Y,h)) λg=>aQ (λy(((e,i),_):((V Nat)×Int)×ab)=>bif !e.isNone then b.bind λz=>(h.fP[z]?).bind λb0=>(dX h.jU b0.pH).bind λq=>bif i<q.length then e.bind λv=>(h.eY[v]?).bind λw=>bif w.au.name==a.name then(zQ N (c,2,d,0,43)).bind λx=>O (x,h)else e.bind λA=>(h.eY[A]?).bind λm0=>y ((m0.up,Wk.wrap (i+1)),())else g ((),())else g ((),())) N ((u.up,0),())else b.bind λB=>(h.fP[B]?).bind λC=>(dX h.jU C.pH).bind λD=>((bp dz D a.name).getD Y).bind λE=>(h.eY[E]?).bind λG=>aG (λ(_:ab×ab)=>O (Y,h)) λj=>aQ (λH(((f,k),_):((V Nat)×Int)×ab)=>bif !f.isNone then b.bind λw0=>(h.fP[w0]?).bind λI=>(dX h.jU I.pH).bind λJ=>bif k<J.length then f.bind λK=>(h.eY[K]?).bind λL=>bif L.au.name==a.name then(zQ N (c,2,d,0,43)).bind λP=>O (P,h)else f.bind λQ=>(h.eY[Q]?).bind λR=>H ((R.up,Wk.wrap (k+1)),())else j ((),())else j ((),())) N ((G.up,0),())
abbrev K72:bZ U:=⟨[.I,.I,bQ,dH],[.v bf],Y,.st (F72 N)⟩
def G72:Holds 72 (K72 N):=gS N f72 (.q (.q (.q (.J (.B ⟨F,[0,1,3,6],[(8,.val mn),(9,.val .I)],[6],[]⟩ .leaf) .leaf)))) (cn (Yx N) nl)
def F30:(V Nat)×(Z dc)->Hp->V ((V h9)×Hp):=λ(c,i) h=>
 c.bind λj=>
 (h.fP[j]?).bind λk=>
 k.pH.bind λl=>
 (h.jU[l]?).bind λd=>
 lf (λ(e:bP×(V Nat))((_,b):ab×Hp) m=>
  c.bind λn=>
  (b.fP[n]?).bind λo=>
  e.2.bind λp=>
  (b.eY[p]?).bind λr=>
  (dX b.jU o.pH).bind λs=>
  e.2.bind λf=>
  (b.eY[f]?).bind λa=>
  cw {b with eY:=b.eY.set f (hJ.mk a.au a.tu ((bp dz s r.au.dI).getD Y) a.number a.h4 a.eu a.equations a.cells a.eU a.rn a.nj)} λt=>
  m ((),t)) (λ((_,b):ab×Hp)=>
  (F69 N (i,λu=>F70 N u,λ(y,z,b0) q=>F72 N (y,z,b0,c) q) b).bind λg=>
  O (g.1,g.2)) d.length d ((),h)
abbrev K30:bZ U:=⟨[km,aY],[.v bf],Y,.st (F30 N)⟩
def G30:Holds 30 (K30 N):=gM N f30 (.q (.seq Y (.Ho ⟨W,[1,2,11],[],[2],[]⟩ .leaf) .leaf)) (cn (G69 N) (cn (G70 N) (cn (G72 N) nl)))
def aas(N:Nat)(rec:V Nat->Hp->V ((Z (V Nat))×Hp)):V Nat->Hp->V ((Z (V Nat))×Hp):=λa h=>bif a.isNone then O ([],h)else a.bind λc=>(h.eY[c]?).bind λd=>(rec d.up h).bind λb=>(dv (cF 8 (b.1.length+[a].length) 140737488355328)).bind λ_=>O ((b.1++[a]),b.2)
def Na(N:Nat):Nat->V Nat->Hp->V ((Z (V Nat))×Hp)
 |0=>λ_ _=>Y|n+1=>aas N (Na N n)
def F74:V Nat->Hp->V ((Z (V Nat))×Hp):=Na N N
abbrev acm(rec:V Nat->Hp->V ((Z (V Nat))×Hp)):bZ U:=⟨[mn],[.bR mn 146],Y,.st rec⟩
abbrev K74:bZ U:=⟨[mn],[.bR mn 146],Y,.st (F74 N)⟩
def acn(N:Nat)(E:cd)(a:oN E):∀n,eb PP E TT (BB.lA 0 []) 74 (acm (Na N n))
 |0=>Dg ap|n+1=>have b:=acn N E a n
  mJ SS a.ro f74 (acm (Na N (n+1))) N [] .leaf (.cons b .nil) (Na N (n+1)) ap ap ap λ_ _=>ap
def G74:Holds 74 (K74 N):=λE a=>acn N E a N
def F73:Int×Int×dQ×(V Nat)×(V Nat)->Hp->V ((V h9)×Hp):=λ(e,f,d,r,S) h=>
 aG (λ(((Q1,R1,t4,t,k,l),a):(bP×bP×aa×(Z fO)×(Z hZ)×(Z gR))×Hp)=>
  aG (λ((H,_):(Z bP)×ab)=>
   aG (λ((w0,_):(Z bP)×ab)=>
    aG (λ((I,_):(Z bP)×ab)=>
     aG (λ(_:ab×ab)=>
      S.bind λJ=>
      (a.all[J]?).bind λT=>
      cw {a with all:=a.all.set J (fV dz T d.name (dQ.mk d.name d.dI d.mL t k l))} λU=>
      O (Y,U)) λq1=>
     aQ (λX(((u,c),_):(Int×Int)×ab)=>
      bif c<([H,w0,I].length:Int)then
       aG (λ((a0,_):Int×ab)=>X ((a0,Wk.wrap (c+1)),())) λy=>
       (ax [H,w0,I] c).bind λb=>
       bif dp c 0 then
        aQ (λe0(((n,g),_):(Int×Int)×ab)=>
         bif g<b.length then
          bif 32<=g then
           (zQ N (e,2,f,Wk.wrap (n+1),4)).bind λf0=>
           O (f0,a)
          else
           (dv (decide (0<=g)&&decide (g.toNat<=b.length))).bind λ_=>
           (ax b g).bind λh0=>
           (Z0 N (b.take g.toNat,h0)).bind λi0=>
           bif i0 then
            (zQ N (e,2,f,Wk.wrap (n+1),40)).bind λl0=>
            O (l0,a)
           else
            aG (λ((o0,_):bP×ab)=>
             r.bind λu0=>
             (a.fP[u0]?).bind λA0=>
             (dX a.jU A0.pH).bind λB0=>
             bif ((bp dz B0 o0).getD Y).isNone then
              (zQ N (e,2,f,Wk.wrap (n+1),42)).bind λC0=>
              O (C0,a)
             else e0 ((Wk.wrap (n+1),Wk.wrap (g+1)),())) λz=>
            bif c==1 then
             (ax k g).bind λD0=>
             z (D0.au,())
            else
             bif c==2 then
              (ax l g).bind λE0=>
              z (E0.au,())
             else z (d.name,())
         else y (n,())) N ((u,Wk.wrap ((b.length:Int)-(d.bd.length:Int))),())
       else
       bif dp c 1 then
        aQ (λG0(((o,i),_):(Int×Int)×ab)=>
         bif i<b.length then
          bif 32<=i then
           (zQ N (e,2,f,Wk.wrap (o+1),4)).bind λH0=>
           O (H0,a)
          else
           (dv (decide (0<=i)&&decide (i.toNat<=b.length))).bind λ_=>
           (ax b i).bind λI0=>
           (Z0 N (b.take i.toNat,I0)).bind λJ0=>
           bif J0 then
            (zQ N (e,2,f,Wk.wrap (o+1),40)).bind λs2=>
            O (s2,a)
           else
            aG (λ((K0,_):bP×ab)=>
             r.bind λL0=>
             (a.fP[L0]?).bind λN0=>
             (dX a.jU N0.pH).bind λP0=>
             bif ((bp dz P0 K0).getD Y).isNone then
              (zQ N (e,2,f,Wk.wrap (o+1),42)).bind λQ0=>
              O (Q0,a)
             else G0 ((Wk.wrap (o+1),Wk.wrap (i+1)),())) λb0=>
            bif c==1 then
             (ax k i).bind λR0=>
             b0 (R0.au,())
            else
             bif c==2 then
              (ax l i).bind λc3=>
              b0 (c3.au,())
             else b0 (d.name,())
         else y (o,())) N ((u,Wk.wrap ((b.length:Int)-(d.aD.length:Int))),())
       else
       bif dp c 2 then
        aQ (λS0(((p,j),_):(Int×Int)×ab)=>
         bif j<b.length then
          bif 32<=j then
           (zQ N (e,2,f,Wk.wrap (p+1),4)).bind λT0=>
           O (T0,a)
          else
           (dv (decide (0<=j)&&decide (j.toNat<=b.length))).bind λ_=>
           (ax b j).bind λU0=>
           (Z0 N (b.take j.toNat,U0)).bind λX0=>
           bif X0 then
            (zQ N (e,2,f,Wk.wrap (p+1),40)).bind λa1=>
            O (a1,a)
           else
            aG (λ((e1,_):bP×ab)=>
             r.bind λf1=>
             (a.fP[f1]?).bind λh1=>
             (dX a.jU h1.pH).bind λi1=>
             bif ((bp dz i1 e1).getD Y).isNone then
              (zQ N (e,2,f,Wk.wrap (p+1),42)).bind λl1=>
              O (l1,a)
             else S0 ((Wk.wrap (p+1),Wk.wrap (j+1)),())) λq=>
            bif c==1 then
             (ax k j).bind λo1=>
             q (o1.au,())
            else
             bif c==2 then
              (ax l j).bind λu1=>
              q (u1.au,())
             else q (d.name,())
         else y (p,())) N ((u,Wk.wrap ((b.length:Int)-(d.bK.length:Int))),())
       else
       Y
      else q1 ((),())) N ((0,0),())) λA1=>
    aQ (λB1(((v,w),_):((Z bP)×Int)×ab)=>
     bif w<l.length then
      (ax l w).bind λK=>
      (dv (cF 16 (v.length+[K.role].length) 140737488355328)).bind λ_=>
      B1 ((v++[K.role],Wk.wrap (w+1)),())
     else A1 (v,())) N (([],0),())) λC1=>
   aQ (λD1(((x,A),_):((Z bP)×Int)×ab)=>
    bif A<k.length then
     (ax k A).bind λL=>
     (dv (cF 16 (x.length+[L.role].length) 140737488355328)).bind λ_=>
     D1 ((x++[L.role],Wk.wrap (A+1)),())
    else C1 (x,())) N (([],0),())) λE1=>
  aQ (λG1(((m0,B),_):((Z bP)×Int)×ab)=>
   bif B<t.length then
    (ax t B).bind λP=>
    (dv (cF 16 (m0.length+[P.name].length) 140737488355328)).bind λ_=>
    G1 ((m0++[P.name],Wk.wrap (B+1)),())
   else E1 (m0,())) N (([],0),())) λH1=>
 r.bind λI1=>
 (h.fP[I1]?).bind λJ1=>
 (dX h.jU J1.pH).bind λK1=>
 (F74 N ((bp dz K1 d.name).getD Y) h).bind λs=>
 aQ (λL1(((C,g1,Q,R,D,E,G),_):(Int×bP×bP×aa×(Z fO)×(Z hZ)×(Z gR))×ab)=>
  bif C<s.1.length then
   (ax s.1 C).bind λN1=>
   N1.bind λP1=>
   (s.2.eY[P1]?).bind λm=>
   (dv (cF 24 (D.length+m.au.bd.length) 140737488355328)).bind λ_=>
   (dv (cF 48 (E.length+m.au.aD.length) 140737488355328)).bind λ_=>
   (dv (cF 40 (G.length+m.au.bK.length) 140737488355328)).bind λ_=>
   L1 ((Wk.wrap (C+1),g1,Q,R,D++m.au.bd,E++m.au.aD,G++m.au.bK),())
  else H1 ((g1,Q,R,D,E,G),s.2)) N ((0,[],[],F,[],[],[]),())
abbrev K73:bZ U:=⟨[.I,.I,bQ,dH,(.cell (.mp 8))],[.v bf],Y,.st (F73 N)⟩
def G73:Holds 73 (K73 N):=gS N f73 (.q (.q (.q (.seq (O ⟨W,[0,1,3,4,7,9,10,11,12],[],[7],[(12,.cells bQ [.val .str,.val .str,.val .bool,.bR 501203 fX 157,.bR 501204 fY 159,.bR 501205 fm 161])]⟩) (.B ⟨F,[0,1,3,4,7,9,10,11,12,35,36],[(37,.val .I)],[7,35],[(12,.cells bQ [.val .str,.val .str,.val .bool,.bR 501203 fX 157,.bR 501204 fY 159,.bR 501205 fm 161])]⟩ .leaf) (.seq (O ⟨F,[0,1,3,4,7,10,11,12],[(9,.bR 9 .str 9)],[7,12,501203,501204,501205],[]⟩) (.B ⟨F,[0,1,3,4,7,10,11,12,65,66],[(9,.bR 9 .str 9),(67,.val .I)],[7,12,501203,501204,501205],[]⟩ .leaf) (.seq (O ⟨F,[0,1,3,4,7,9,11,12],[(10,.bR 10 .str 9)],[7,9,12,501203,501204,501205],[]⟩) (.B ⟨F,[0,1,3,4,7,9,11,12,78,79],[(10,.bR 10 .str 9),(80,.val .I)],[7,9,12,501203,501204,501205],[]⟩ .leaf) (.seq (O ⟨F,[0,1,3,4,7,9,10,12],[(11,.bR 11 .str 9)],[7,9,10,12,501203,501204,501205],[]⟩) (.B ⟨F,[0,1,3,4,7,9,10,12,91,92],[(11,.bR 11 .str 9),(93,.val .I)],[7,9,10,12,501203,501204,501205],[]⟩ .leaf) (.q (.seq (O ⟨F,[4,7,12],[],[7,12,501203,501204,501205],[]⟩) (.B ⟨F,[0,1,3,4,7,12,106,107],[(22,.val .I),(108,.val .I)],[7,12,106,501203,501204,501205],[]⟩ (.q (.q (.seq (O ⟨F,[0,1,3,4,7,12,106,107,108],[(22,.val .I)],[7,12,106,501203,501204,501205],[]⟩) (.block (.q (.q (.B ⟨F,[0,1,3,4,7,12,23,24,106,107,108],[(22,.val .I),(26,.val .I)],[7,12,106,501203,501204,501205],[]⟩ (.q (.seq Y (.block (.q (.q (.q (.q (.seq (O ⟨F,[0,1,3,4,7,12,22,23,24,26,106,107,108],[(27,.val .str)],[7,12,106,501203,501204,501205],[]⟩) .leaf .leaf)))))) .leaf)))))) .leaf)))) .leaf))))))))) (cn (Yx N) (cn (G74 N) (cn (G75 N) nl)))
def F31:(V Nat)×(Z dc)->Hp->V ((V h9)×Hp):=λ(d,i) h=>
 cw {h with all:=h.all++[[]]} λj=>
 (F69 N (i,λk=>F70 N k,λ(l,m,n) o=>F73 N (l,m,n,d,O h.all.length) o) j).bind λc=>
 (O h.all.length).bind λp=>
 (c.2.all[p]?).bind λe=>
 lf (λ(f:bP×dQ)((_,b):ab×Hp) r=>
  d.bind λs=>
  (b.fP[s]?).bind λt=>
  (dX b.jU t.pH).bind λu=>
  ((bp dz u f.1).getD Y).bind λg=>
  (b.eY[g]?).bind λa=>
  cw {b with eY:=b.eY.set g (hJ.mk f.2 a.tu a.up a.number a.h4 a.eu a.equations a.cells a.eU a.rn a.nj)} λy=>
  r ((),y)) (λ((_,b):ab×Hp)=>
  O (c.1,b)) e.length e ((),c.2)
abbrev K31:bZ U:=⟨[km,aY],[.v bf],Y,.st (F31 N)⟩
def G31:Holds 31 (K31 N):=gM N f31 (.q (.q (.q (.seq Y (.Ho ⟨W,[2,6,14],[],[],[]⟩ .leaf) .leaf)))) (cn (G69 N) (cn (G70 N) (cn (G73 N) nl))) [(9,8)]
def F77:(Z dc)×(dc->V (Z rz))×((Int×Int×rz)->Hp->V ((V h9)×Hp))->Hp->V ((V h9)×Hp):=λ(d,i,j) h=>aG (λ((_,k):ab×Hp)=>O (Y,k)) λl=>aQ (λm((a,e):Int×Hp)=>bif a<d.length then aG (λ((_,n):ab×Hp)=>m (Wk.wrap (a+1),n)) λo=>(ax d a).bind λp=>(i p).bind λf=>aQ (λr((b,g):Int×Hp)=>bif b<f.length then(ax f b).bind λs=>(j (a,b,s) g).bind λc=>bif !c.1.isNone then O (c.1,c.2)else r (Wk.wrap (b+1),c.2)else o ((),g)) N (0,e)else l ((),e)) N (0,h)
abbrev K77:bZ U:=⟨[aY,(.fn cg eR),(.lP (.iz .I (.iz .I eE)) bf)],[.v bf],Y,.st (F77 N)⟩
def G77:Holds 77 (K77 N):=gS N f77 (.q (.seq (O ⟨W,[],[],[],[]⟩) (.B ⟨W,[1,2,12,13],[(14,.val .I)],[],[]⟩ (.q (.q (.seq (O ⟨W,[1,2,12,13,14],[],[],[]⟩) (.block (.q (.B ⟨W,[1,2,7,12,13,14,21,22],[(23,.val .I)],[],[]⟩ .leaf))) .leaf)))) .leaf)) nl
def F78(N:Nat):dc->V (Z rz):=λa=>O a.eu
abbrev K78:bZ U:=⟨[cg],[.v eR],Y,.pure (F78 N)⟩
def G78:Holds 78 (K78 N):=gP N f78 .leaf nl
def F80:Int×Int×Int×Int->V (V h9):=λ(a,b,c,d)=>bif a==0 then O Y else(zQ N (b,c,d,0,a)).bind λe=>O e
abbrev K80:bZ U:=⟨[.I,.I,.I,.I],[.v bf],Y,.pure (F80 N)⟩
def G80:Holds 80 (K80 N):=gP N f80 .leaf (cn (Yx N) nl)
def aat(N:Nat):rz×rz->V aa:=λ(a,b)=>O (a.name==b.name)
abbrev agy:bZ U:=⟨[eE,ky],[.v .bool],Y,.pure (aat N)⟩
def agz:Holds 178 (agy N):=gP N f178 .leaf nl
def aau(N:Nat):gR×rz->V aa:=λ(a,b)=>O (a.role==b.name)
abbrev agA:bZ U:=⟨[fm,ky],[.v .bool],Y,.pure (aau N)⟩
def agB:Holds 180 (agA N):=gP N f180 .leaf nl
def F81:(V Nat)×rz->Hp->V (Int×Hp):=λ(k,a) h=>
 k.bind λl=>
 (h.fP[l]?).bind λm=>
 (dX h.jU m.pH).bind λc=>
 bif ((bp dz c a.au).getD Y).isNone then O (42,h)
 else
  bif !a.scope then
   ((bp dz c a.au).getD Y).bind λn=>
   (h.eY[n]?).bind λo=>
   (gH h.FX o.eu).bind λp=>
   (TR N (p,λr=>aat N (r,a))).bind λs=>
   bif s then O (40,h)
   else
    ((bp dz c a.au).getD Y).bind λt=>
    (h.eY[t]?).bind λg=>
    (gH h.FX g.eu).bind λd=>
    (dv (cF 56 (d.length+[a].length) 140737488355328)).bind λ_=>
    cw {h with FX:=iK h.FX g.eu} λe=>
    ((bp dz c a.au).getD Y).bind λi=>
    (dv (!(d++[a]).isEmpty)).bind λ_=>
    cw {e with FX:=e.FX++[O (d++[a])]} λf=>
    (f.eY[i]?).bind λb=>
    cw {f with eY:=f.eY.set i (hJ.mk b.au b.tu b.up b.number b.h4 (O (e.FX.length,(d++[a]).length)) b.equations b.cells b.eU b.rn b.nj)} λu=>
    O (0,u)
  else
   ((bp dz c a.au).getD Y).bind λy=>
   (h.eY[y]?).bind λz=>
   (Qv N (z.au.bK,λb0=>aau N (b0,a))).bind λq=>
   bif !q then O (42,h)
   else
    ((bp dz c a.au).getD Y).bind λv=>
    (h.eY[v]?).bind λw=>
    (dX h.zP w.h4).bind λx=>
    bif (bp dz x a.name).isSome then O (40,h)
    else
     ((bp dz c a.au).getD Y).bind λA=>
     (h.eY[A]?).bind λm0=>
     m0.h4.bind λj=>
     (h.zP[j]?).bind λB=>
     cw {h with zP:=h.zP.set j (fV dz B a.name (Dm.mk a.Qp))} λC=>
     O (0,C)
abbrev K81:bZ U:=⟨[km,eE],[.v .I],Y,.st (F81 N)⟩
def G81:Holds 81 (K81 N):=gS N f81 .leaf (cn (abZ N) (cn (agz N) (cn (abW N) (cn (agB N) nl))))
def F79:Int×Int×rz×(V Nat)×Int->Hp->V ((V h9)×Hp):=λ(g,b,c,d,e) h=>(F81 N (d,c) h).bind λa=>(F80 N (a.1,e,3,b)).bind λf=>O (f,a.2)
abbrev K79:bZ U:=⟨[.I,.I,eE,dH,lp],[.v bf],Y,.st (F79 N)⟩
def G79:Holds 79 (K79 N):=gS N f79 .leaf (cn (G80 N) (cn (G81 N) nl))
def F76:(Z dc)×(V Nat)×Int->Hp->V ((V h9)×Hp):=λ(c,d,a) h=>(F77 N (c,λa=>F78 N a,λ(e,f,g) i=>F79 N (e,f,g,d,a) i) h).bind λb=>O (b.1,b.2)
abbrev K76:bZ U:=⟨[et,dH,lp],[.v bf],Y,.st (F76 N)⟩
def G76:Holds 76 (K76 N):=gS N f76 .leaf (cn (G77 N) (cn (G78 N) (cn (G79 N) nl)))
def F83:(Z dc)×(dc->V (Z dA))×((Int×Int×dA)->Hp->V ((V h9)×Hp))->Hp->V ((V h9)×Hp):=λ(d,i,j) h=>aG (λ((_,k):ab×Hp)=>O (Y,k)) λl=>aQ (λm((a,e):Int×Hp)=>bif a<d.length then aG (λ((_,n):ab×Hp)=>m (Wk.wrap (a+1),n)) λo=>(ax d a).bind λp=>(i p).bind λf=>aQ (λr((b,g):Int×Hp)=>bif b<f.length then(ax f b).bind λs=>(j (a,b,s) g).bind λc=>bif !c.1.isNone then O (c.1,c.2)else r (Wk.wrap (b+1),c.2)else o ((),g)) N (0,e)else l ((),e)) N (0,h)
abbrev K83:bZ U:=⟨[aY,(.fn cg gQ),(.lP (.iz .I (.iz .I fZ)) bf)],[.v bf],Y,.st (F83 N)⟩
def G83:Holds 83 (K83 N):=gS N f83 (.q (.seq (O ⟨W,[],[],[],[]⟩) (.B ⟨W,[1,2,12,13],[(14,.val .I)],[],[]⟩ (.q (.q (.seq (O ⟨W,[1,2,12,13,14],[],[],[]⟩) (.block (.q (.B ⟨W,[1,2,7,12,13,14,21,22],[(23,.val .I)],[],[]⟩ .leaf))) .leaf)))) .leaf)) nl
def F84(N:Nat):dc->V (Z dA):=λa=>O a.equations
abbrev K84:bZ U:=⟨[cg],[.v gQ],Y,.pure (F84 N)⟩
def G84:Holds 84 (K84 N):=gP N f84 .leaf nl
def aav(N:Nat):Z Int->V (Z Int):=λa=>bif a.isEmpty then both (O []) ((dv (cF 8 (0+a.length) 140737488355328)).bind λ_=>O (([]:Z _)++a))else(dv (cF 8 (0+a.length) 140737488355328)).bind λ_=>O (([]:Z _)++a)
abbrev agC:bZ U:=⟨[ec],[.bR .I 3],Y,.pure (aav N)⟩
def agD:Holds 224 (agC N):=gP N f224 .leaf nl
def Uc:Z l7->V (Z l7):=λd=>aG (λ((f,_):(Z l7)×ab)=>O f) λg=>aQ (λi(((b,c),_):((Z l7)×Int)×ab)=>bif c<d.length then(ax d c).bind λa=>(aav N a.args).bind λe=>(dv (cF 56 (b.length+[l7.mk a.kind a.name a.num e].length) 140737488355328)).bind λ_=>i ((b++[l7.mk a.kind a.name a.num e],Wk.wrap (c+1)),())else g (b,())) N (([],0),())
abbrev agE:bZ U:=⟨[eF],[.bR lY 318],Y,.pure (Uc N)⟩
def agF:Holds 181 (agE N):=gP N f181 (.q (.q (.seq (O ⟨F,[],[(3,.bR 3 lY 318)],[],[]⟩) (.W [6,7] [(3,.bR 3 lY 318),(8,.val .I)]) .leaf))) (cn (agD N) nl)
def F86:dA->V dA:=λa=>(Uc N a.left).bind λb=>(Uc N a.right).bind λc=>O (dA.mk a.au b c)
abbrev K86:bZ U:=⟨[fZ],[.v fZ],Y,.pure (F86 N)⟩
def G86:Holds 86 (K86 N):=gP N f86 .leaf (cn (agF N) nl)
def F85:Int×Int×dA×(V Nat)×Int->Hp->V ((V h9)×Hp):=λ(t,k,b,l,m) h=>
 l.bind λn=>
 (h.fP[n]?).bind λo=>
 (dX h.jU o.pH).bind λe=>
 bif ((bp dz e b.au).getD Y).isNone then
  (zQ N (m,4,k,0,42)).bind λp=>
  O (p,h)
 else
  ((bp dz e b.au).getD Y).bind λr=>
  (h.eY[r]?).bind λi=>
  (F86 N b).bind λc=>
  (gH h.Ie i.equations).bind λd=>
  (dv (cF 64 (d.length+[c].length) 140737488355328)).bind λ_=>
  cw {h with Ie:=iK h.Ie i.equations} λf=>
  ((bp dz e b.au).getD Y).bind λj=>
  (dv (!(d++[c]).isEmpty)).bind λ_=>
  cw {f with Ie:=f.Ie++[O (d++[c])]} λg=>
  (g.eY[j]?).bind λa=>
  cw {g with eY:=g.eY.set j (hJ.mk a.au a.tu a.up a.number a.h4 a.eu (O (f.Ie.length,(d++[c]).length)) a.cells a.eU a.rn a.nj)} λs=>
  O (Y,s)
abbrev K85:bZ U:=⟨[.I,.I,fZ,dH,lp],[.v bf],Y,.st (F85 N)⟩
def G85:Holds 85 (K85 N):=gS N f85 .leaf (cn (Yx N) (cn (G86 N) nl))
def F82:(Z dc)×(V Nat)×Int->Hp->V ((V h9)×Hp):=λ(c,d,a) h=>(F83 N (c,λa=>F84 N a,λ(e,f,g) i=>F85 N (e,f,g,d,a) i) h).bind λb=>O (b.1,b.2)
abbrev K82:bZ U:=⟨[et,dH,lp],[.v bf],Y,.st (F82 N)⟩
def G82:Holds 82 (K82 N):=gS N f82 .leaf (cn (G83 N) (cn (G84 N) (cn (G85 N) nl)))
def F88:(Z dc)×(dc->V (Z eV))×((Int×Int×eV)->Hp->V ((V h9)×Hp))->Hp->V ((V h9)×Hp):=λ(d,i,j) h=>aG (λ((_,k):ab×Hp)=>O (Y,k)) λl=>aQ (λm((a,e):Int×Hp)=>bif a<d.length then aG (λ((_,n):ab×Hp)=>m (Wk.wrap (a+1),n)) λo=>(ax d a).bind λp=>(i p).bind λf=>aQ (λr((b,g):Int×Hp)=>bif b<f.length then(ax f b).bind λs=>(j (a,b,s) g).bind λc=>bif !c.1.isNone then O (c.1,c.2)else r (Wk.wrap (b+1),c.2)else o ((),g)) N (0,e)else l ((),e)) N (0,h)
abbrev K88:bZ U:=⟨[aY,(.fn cg eS),(.lP (.iz .I (.iz .I fo)) bf)],[.v bf],Y,.st (F88 N)⟩
def G88:Holds 88 (K88 N):=gS N f88 (.q (.seq (O ⟨W,[],[],[],[]⟩) (.B ⟨W,[1,2,12,13],[(14,.val .I)],[],[]⟩ (.q (.q (.seq (O ⟨W,[1,2,12,13,14],[],[],[]⟩) (.block (.q (.B ⟨W,[1,2,7,12,13,14,21,22],[(23,.val .I)],[],[]⟩ .leaf))) .leaf)))) .leaf)) nl
def F89(N:Nat):dc->V (Z eV):=λa=>O a.eL
abbrev K89:bZ U:=⟨[cg],[.v eS],Y,.pure (F89 N)⟩
def G89:Holds 89 (K89 N):=gP N f89 .leaf nl
def F91(N:Nat):Z Cell->V (Z Cell):=λa=>bif a.isEmpty then both (O []) ((dv (cF 40 (0+a.length) 140737488355328)).bind λ_=>O (([]:Z _)++a))else(dv (cF 40 (0+a.length) 140737488355328)).bind λ_=>O (([]:Z _)++a)
abbrev K91:bZ U:=⟨[iM],[.bR pn 186],Y,.pure (F91 N)⟩
def G91:Holds 91 (K91 N):=gP N f91 .leaf nl
def F90:Int×Int×eV×(V Nat)×Int->Hp->V ((V h9)×Hp):=λ(u,f,c,k,g) h=>
 k.bind λl=>
 (h.fP[l]?).bind λm=>
 (dX h.jU m.pH).bind λd=>
 bif ((bp dz d c.au).getD Y).isNone then
  (zQ N (g,5,f,0,42)).bind λn=>
  O (n,h)
 else
  ((bp dz d c.au).getD Y).bind λo=>
  (h.eY[o]?).bind λp=>
  bif p.rn then
   (zQ N (g,5,f,0,40)).bind λr=>
   O (r,h)
  else
   (F91 N c.cells).bind λs=>
   ((bp dz d c.au).getD Y).bind λi=>
   (h.eY[i]?).bind λa=>
   cw {h with eY:=h.eY.set i (hJ.mk a.au a.tu a.up a.number a.h4 a.eu a.equations a.cells a.eU W a.nj)} λe=>
   ((bp dz d c.au).getD Y).bind λj=>
   (e.eY[j]?).bind λb=>
   cw {e with eY:=e.eY.set j (hJ.mk b.au b.tu b.up b.number b.h4 b.eu b.equations s b.eU b.rn b.nj)} λt=>
   O (Y,t)
abbrev K90:bZ U:=⟨[.I,.I,fo,dH,lp],[.v bf],Y,.st (F90 N)⟩
def G90:Holds 90 (K90 N):=gS N f90 .leaf (cn (Yx N) (cn (G91 N) nl))
def F87:(Z dc)×(V Nat)×Int->Hp->V ((V h9)×Hp):=λ(c,d,a) h=>(F88 N (c,λa=>F89 N a,λ(e,f,g) i=>F90 N (e,f,g,d,a) i) h).bind λb=>O (b.1,b.2)
abbrev K87:bZ U:=⟨[et,dH,lp],[.v bf],Y,.st (F87 N)⟩
def G87:Holds 87 (K87 N):=gS N f87 .leaf (cn (G88 N) (cn (G89 N) (cn (G90 N) nl)))
def F93:(Z dc)×(dc->V (Z cR))×((Int×Int×cR)->Hp->V ((V h9)×Hp))->Hp->V ((V h9)×Hp):=λ(d,i,j) h=>aG (λ((_,k):ab×Hp)=>O (Y,k)) λl=>aQ (λm((a,e):Int×Hp)=>bif a<d.length then aG (λ((_,n):ab×Hp)=>m (Wk.wrap (a+1),n)) λo=>(ax d a).bind λp=>(i p).bind λf=>aQ (λr((b,g):Int×Hp)=>bif b<f.length then(ax f b).bind λs=>(j (a,b,s) g).bind λc=>bif !c.1.isNone then O (c.1,c.2)else r (Wk.wrap (b+1),c.2)else o ((),g)) N (0,e)else l ((),e)) N (0,h)
abbrev K93:bZ U:=⟨[aY,(.fn cg eT),(.lP (.iz .I (.iz .I fp)) bf)],[.v bf],Y,.st (F93 N)⟩
def G93:Holds 93 (K93 N):=gS N f93 (.q (.seq (O ⟨W,[],[],[],[]⟩) (.B ⟨W,[1,2,12,13],[(14,.val .I)],[],[]⟩ (.q (.q (.seq (O ⟨W,[1,2,12,13,14],[],[],[]⟩) (.block (.q (.B ⟨W,[1,2,7,12,13,14,21,22],[(23,.val .I)],[],[]⟩ .leaf))) .leaf)))) .leaf)) nl
def F94(N:Nat):dc->V (Z cR):=λa=>O a.c7
abbrev K94:bZ U:=⟨[cg],[.v eT],Y,.pure (F94 N)⟩
def G94:Holds 94 (K94 N):=gP N f94 .leaf nl
def F96(N:Nat):Z w7->V (Z w7):=λa=>bif a.isEmpty then both (O []) ((dv (cF 40 (0+a.length) 140737488355328)).bind λ_=>O (([]:Z _)++a))else(dv (cF 40 (0+a.length) 140737488355328)).bind λ_=>O (([]:Z _)++a)
abbrev K96:bZ U:=⟨[iN],[.bR po 193],Y,.pure (F96 N)⟩
def G96:Holds 96 (K96 N):=gP N f96 .leaf nl
def F95:Int×Int×cR×(V Nat)×Int->Hp->V ((V h9)×Hp):=λ(u,f,c,k,g) h=>
 k.bind λl=>
 (h.fP[l]?).bind λm=>
 (dX h.jU m.pH).bind λd=>
 bif ((bp dz d c.au).getD Y).isNone then
  (zQ N (g,6,f,0,42)).bind λn=>
  O (n,h)
 else
  ((bp dz d c.au).getD Y).bind λo=>
  (h.eY[o]?).bind λp=>
  bif p.nj then
   (zQ N (g,6,f,0,40)).bind λr=>
   O (r,h)
  else
   (F96 N c.eU).bind λs=>
   ((bp dz d c.au).getD Y).bind λi=>
   (h.eY[i]?).bind λa=>
   cw {h with eY:=h.eY.set i (hJ.mk a.au a.tu a.up a.number a.h4 a.eu a.equations a.cells a.eU a.rn W)} λe=>
   ((bp dz d c.au).getD Y).bind λj=>
   (e.eY[j]?).bind λb=>
   cw {e with eY:=e.eY.set j (hJ.mk b.au b.tu b.up b.number b.h4 b.eu b.equations b.cells s b.rn b.nj)} λt=>
   O (Y,t)
abbrev K95:bZ U:=⟨[.I,.I,fp,dH,lp],[.v bf],Y,.st (F95 N)⟩
def G95:Holds 95 (K95 N):=gS N f95 .leaf (cn (Yx N) (cn (G96 N) nl))
def F92:(Z dc)×(V Nat)×Int->Hp->V ((V h9)×Hp):=λ(c,d,a) h=>(F93 N (c,λa=>F94 N a,λ(e,f,g) i=>F95 N (e,f,g,d,a) i) h).bind λb=>O (b.1,b.2)
abbrev K92:bZ U:=⟨[et,dH,lp],[.v bf],Y,.st (F92 N)⟩
def G92:Holds 92 (K92 N):=gS N f92 .leaf (cn (G93 N) (cn (G94 N) (cn (G95 N) nl)))
def F32:(V Nat)×(Z dc)->Hp->V ((V h9)×Hp):=λ(c,b) h=>aG (λ((_,j):ab×Hp)=>O (Y,j)) λk=>aQ (λl((a,i):Int×Hp)=>bif a<b.length then(dv (decide (0<=a)&&(decide (0<=Wk.wrap (a+1))&&(decide (a.toNat<=(Wk.wrap (a+1)).toNat)&&decide ((Wk.wrap (a+1)).toNat<=b.length))))).bind λ_=>(F76 N ((b.take ((Wk.wrap (a+1)).toNat)).drop a.toNat,c,a) i).bind λd=>bif !d.1.isNone then O (d.1,d.2)else(F82 N ((b.take ((Wk.wrap (a+1)).toNat)).drop a.toNat,c,a) d.2).bind λe=>bif !e.1.isNone then O (e.1,e.2)else(F87 N ((b.take ((Wk.wrap (a+1)).toNat)).drop a.toNat,c,a) e.2).bind λf=>bif !f.1.isNone then O (f.1,f.2)else(F92 N ((b.take ((Wk.wrap (a+1)).toNat)).drop a.toNat,c,a) f.2).bind λg=>bif !g.1.isNone then O (g.1,g.2)else l (Wk.wrap (a+1),g.2)else k ((),i)) N (0,h)
abbrev K32:bZ U:=⟨[km,aY],[.v bf],Y,.st (F32 N)⟩
def G32:Holds 32 (K32 N):=gS N f32 (.q (.seq (O ⟨W,[],[],[],[]⟩) (.B ⟨W,[1,2,12],[(13,.val .I)],[],[]⟩ (.q (.q (.seq Y (.block (.q (.q (.q (.q (.block (.Mh .leaf))))))) .leaf)))) .leaf)) (cn (G76 N) (cn (G82 N) (cn (G87 N) (cn (G92 N) nl)))) [(2,998)]
def F13:Z dc->Hp->V (((V Nat)×h9)×Hp):=λb h=>
 cw {h with jU:=h.jU++[[]]} λa=>
 cw {a with fP:=a.fP++[AM.mk (O h.jU.length) Y (w6.mk (iO.mk) (w4.mk (iP.mk) 0) (qU.mk (iO.mk) (yC.mk 0 0))) Y (Ib.mk (iP.mk) (nK.mk) 0)]} λg=>
 (F28 N (O a.fP.length,b)).bind λi=>
 bif !i.isNone then
  i.bind λj=>
  O ((Y,j),g)
 else
  (F29 N (O a.fP.length,b) g).bind λd=>
  bif !d.1.isNone then
   d.1.bind λk=>
   O ((Y,k),d.2)
  else
   (F30 N (O a.fP.length,b) d.2).bind λe=>
   bif !e.1.isNone then
    e.1.bind λl=>
    O ((Y,l),e.2)
   else
    (F31 N (O a.fP.length,b) e.2).bind λf=>
    bif !f.1.isNone then
     f.1.bind λm=>
     O ((Y,m),f.2)
    else
     (F32 N (O a.fP.length,b) f.2).bind λc=>
     bif !c.1.isNone then
      c.1.bind λn=>
      O ((Y,n),c.2)
     else
      (O a.fP.length).bind λo=>
      (c.2.fP[o]?).bind λp=>
      (F33 N p.rm c.2).bind λr=>
      O ((O a.fP.length,h9.mk 0 0 0 0),r.2)
abbrev K13:bZ U:=⟨[aY],[.v km,.v fq],Y,.st (F13 N)⟩
def G13:Holds 13 (K13 N):=gS N f13 (.q (.q (.seq Y (.q (.block (.Mh .leaf))) .leaf))) (cn (G28 N) (cn (G29 N) (cn (G30 N) (cn (G31 N) (cn (G32 N) (cn (G33 N) nl)))))) [(8,3),(10,1)]
def Rl(N:Nat):Int×Int×Int×Int×Int->V h9:=λ(a,b,c,d,e)=>O (h9.mk (Wk.wrap ((Wk.wrap (10*a))+b)) c d e)
abbrev K34:bZ U:=⟨[.I,.I,.I,.I,.I],[.v fq],Y,.pure (Rl N)⟩
def G34:Holds 34 (K34 N):=gP N f34 .leaf nl
def yF:Int×bP->V aa:=λ(c,b)=>aG (λ(_:ab×ab)=>O F) λd=>aQ (λe((a,_):Int×ab)=>bif a<b.length then(ax b a).bind λf=>bif (f.toNat:Int)==c then O W else e (Wk.wrap (a+1),())else d ((),())) N (0,())
abbrev agG:bZ U:=⟨[so,.str],[.v .bool],Y,.pure (yF N)⟩
def aco:Holds 193 (agG N):=gP N f193 (.q (.J (.W [0,1] [(5,.val .I)]) .leaf)) nl
def sq:bP->V aa:=λa=>bif (a.length:Int)<1 then O F else bif 32<(a.length:Int)then O F else(ax a 0).bind λc=>(yF N ((c.toNat:Int),[65,66,67,68,69,70,71,72,73,74,75,76,77,78,79,80,81,82,83,84,85,86,87,88,89,90,97,98,99,100,101,102,103,104,105,106,107,108,109,110,111,112,113,114,115,116,117,118,119,120,121,122])).bind λd=>bif !d then O F else aG (λ(_:ab×ab)=>O W) λe=>aQ (λf((b,_):Int×ab)=>bif b<a.length then(ax a b).bind λg=>(yF N ((g.toNat:Int),[65,66,67,68,69,70,71,72,73,74,75,76,77,78,79,80,81,82,83,84,85,86,87,88,89,90,97,98,99,100,101,102,103,104,105,106,107,108,109,110,111,112,113,114,115,116,117,118,119,120,121,122,48,49,50,51,52,53,54,55,56,57,95])).bind λi=>bif !i then O F else f (Wk.wrap (b+1),())else e ((),())) N (1,())
abbrev K99:bZ U:=⟨[.str],[.v .bool],Y,.pure (sq N)⟩
def Rm:Holds 99 (K99 N):=gP N f99 (.q (.q (.J (.W [0] [(3,.val .I)]) .leaf))) (cn (aco N) nl)
def Dv(N:Nat):Int×Int×Int×Int->V h9:=λ(b,c,d,a)=>bif a==0 then O (h9.mk 0 0 0 0)else O (h9.mk b c d a)
abbrev agH:bZ U:=⟨[.I,.I,.I,.I],[.v fq],Y,.pure (Dv N)⟩
def agI:Holds 100 (agH N):=gP N f100 .leaf nl
def W9:dc×Int->V Int:=λ(a,b)=>bif 8<=b then O 4 else(ax a.tv b).bind λd=>(sq N d).bind λe=>bif !e then O 2 else(ax a.tv b).bind λf=>bif f==a.name then O 40 else aG (λ(_:ab×ab)=>O 0) λg=>aQ (λi((c,_):Int×ab)=>bif c<b then(ax a.tv c).bind λj=>(ax a.tv b).bind λk=>bif j==k then O 40 else i (Wk.wrap (c+1),())else g ((),())) N (0,())
abbrev agJ:bZ U:=⟨[cg,.I],[.v .I],Y,.pure (W9 N)⟩
def agK:Holds 101 (agJ N):=gP N f101 (.q (.q (.q (.q (.J (.B ⟨F,[1,2],[(5,.val .I)],[2],[]⟩ .leaf) .leaf))))) (cn (Rm N) nl)
def Ud:dQ×Int->V Int:=λ(b,a)=>bif 32<=a then O 4 else(ax b.bd a).bind λd=>(sq N d.name).bind λe=>bif !e then O 2 else aG (λ(_:ab×ab)=>(ax b.bd a).bind λf=>bif f.type<1 then O 41 else(ax b.bd a).bind λg=>bif 4<g.type then O 41 else O 0) λi=>aQ (λj((c,_):Int×ab)=>bif c<a then(ax b.bd c).bind λk=>(ax b.bd a).bind λl=>bif k.name==l.name then O 40 else j (Wk.wrap (c+1),())else i ((),())) N (0,())
abbrev agL:bZ U:=⟨[bQ,.I],[.v .I],Y,.pure (Ud N)⟩
def agM:Holds 194 (agL N):=gP N f194 (.q (.q (.q (.seq (O ⟨F,[1,2],[],[2],[]⟩) (.B ⟨F,[1,2],[(5,.val .I)],[2],[]⟩ .leaf) .leaf)))) (cn (Rm N) nl)
def Ue:dQ×Int->V Int:=λ(d,b)=>(ax d.aD b).bind λa=>bif 32<=b then O 4 else(sq N a.role).bind λe=>bif !e then O 2 else(sq N a.au).bind λf=>bif !f then O 2 else aG (λ(_:ab×ab)=>bif !(a.min==0)then bif !(a.min==1)then O 44 else bif !(a.max==0)then bif !(a.max==1)then O 44 else O 0 else O 0 else bif !(a.max==0)then bif !(a.max==1)then O 44 else O 0 else O 0) λg=>aQ (λi((c,_):Int×ab)=>bif c<b then(ax d.aD c).bind λj=>bif j.role==a.role then O 40 else i (Wk.wrap (c+1),())else g ((),())) N (0,())
abbrev agN:bZ U:=⟨[bQ,.I],[.v .I],Y,.pure (Ue N)⟩
def agO:Holds 195 (agN N):=gP N f195 (.q (.q (.q (.q (.seq (O ⟨F,[5],[],[5],[]⟩) (.B ⟨F,[1,2,5],[(6,.val .I)],[2,5],[]⟩ .leaf) .leaf))))) (cn (Rm N) nl)
def Uf:dQ×Int->V Int:=λ(d,a)=>(ax d.bK a).bind λb=>bif 32<=a then O 4 else(sq N b.role).bind λe=>bif !e then O 2 else(sq N b.au).bind λf=>bif !f then O 2 else aG (λ(_:ab×ab)=>O 0) λg=>aQ (λi((c,_):Int×ab)=>bif c<a then(ax d.bK c).bind λj=>bif j.role==b.role then O 40 else i (Wk.wrap (c+1),())else g ((),())) N (0,())
abbrev agP:bZ U:=⟨[bQ,.I],[.v .I],Y,.pure (Uf N)⟩
def agQ:Holds 196 (agP N):=gP N f196 (.q (.q (.q (.q (.J (.B ⟨F,[1,2,5],[(6,.val .I)],[2,5],[]⟩ .leaf) .leaf))))) (cn (Rm N) nl)
def Xa:dc×Int->V (Int×Int):=λ(k,i)=>(ax k.bC i).bind λa=>bif 128<=i then O (0,4)else(sq N a.name).bind λs=>bif !s then O (0,2)else aG (λ(_:ab×ab)=>bif !(a.dI==[])then(sq N a.dI).bind λt=>bif !t then O (0,2)else bif a.dI==a.name then O (0,43)else aG (λ(_:ab×ab)=>aG (λ(_:ab×ab)=>aG (λ(_:ab×ab)=>O (0,0)) λu=>aQ (λy((b,_):Int×ab)=>bif b<a.bK.length then(Uf N (a,b)).bind λl=>bif !(l==0)then O (Wk.wrap ((Wk.wrap ((Wk.wrap (1+(a.bd.length:Int)))+(a.aD.length:Int)))+b),l)else y (Wk.wrap (b+1),())else u ((),())) N (0,())) λz=>aQ (λb0((c,_):Int×ab)=>bif c<a.aD.length then(Ue N (a,c)).bind λm=>bif !(m==0)then O (Wk.wrap ((Wk.wrap (1+(a.bd.length:Int)))+c),m)else b0 (Wk.wrap (c+1),())else z ((),())) N (0,())) λh=>aQ (λq((d,_):Int×ab)=>bif d<a.bd.length then(Ud N (a,d)).bind λn=>bif !(n==0)then O (Wk.wrap (1+d),n)else q (Wk.wrap (d+1),())else h ((),())) N (0,())else bif a.dI==a.name then O (0,43)else aG (λ(_:ab×ab)=>aG (λ(_:ab×ab)=>aG (λ(_:ab×ab)=>O (0,0)) λv=>aQ (λw((e,_):Int×ab)=>bif e<a.bK.length then(Uf N (a,e)).bind λo=>bif !(o==0)then O (Wk.wrap ((Wk.wrap ((Wk.wrap (1+(a.bd.length:Int)))+(a.aD.length:Int)))+e),o)else w (Wk.wrap (e+1),())else v ((),())) N (0,())) λx=>aQ (λm0((f,_):Int×ab)=>bif f<a.aD.length then(Ue N (a,f)).bind λp=>bif !(p==0)then O (Wk.wrap ((Wk.wrap (1+(a.bd.length:Int)))+f),p)else m0 (Wk.wrap (f+1),())else x ((),())) N (0,())) λA=>aQ (λB((g,_):Int×ab)=>bif g<a.bd.length then(Ud N (a,g)).bind λr=>bif !(r==0)then O (Wk.wrap (1+g),r)else B (Wk.wrap (g+1),())else A ((),())) N (0,())) λC=>aQ (λD((j,_):Int×ab)=>bif j<i then(ax k.bC j).bind λE=>bif E.name==a.name then O (0,40)else D (Wk.wrap (j+1),())else C ((),())) N (0,())
abbrev agR:bZ U:=⟨[cg,.I],[.v .I,.v .I],Y,.pure (Xa N)⟩
def agS:Holds 102 (agR N):=gP N f102 (.q (.q (.q (.q (.seq (O ⟨F,[6],[],[6],[]⟩) (.B ⟨F,[1,2,6],[(7,.val .I)],[2,6],[]⟩ .leaf) (.q (.q (.seq (O ⟨F,[6],[],[6],[]⟩) (.B ⟨F,[6],[(8,.val .I)],[6],[]⟩ .leaf) (.seq (O ⟨F,[6],[],[6],[]⟩) (.B ⟨F,[6],[(10,.val .I)],[6],[]⟩ .leaf) (.J (.B ⟨F,[6],[(12,.val .I)],[6],[]⟩ .leaf) .leaf)))))))))) (cn (Rm N) (cn (agM N) (cn (agO N) (cn (agQ N) nl))))
def Xb:dc×Int->V Int:=λ(f,c)=>(ax f.eu c).bind λa=>bif 256<=c then O 4 else(sq N a.au).bind λg=>bif !g then O 2 else(sq N a.name).bind λi=>bif !i then O 2 else aG (λ(_:ab×ab)=>bif 4096<(a.Qp.length:Int)then O 3 else O 0) λj=>aQ (λd((b,_):Int×ab)=>bif b<c then(ax f.eu b).bind λe=>bif e.au==a.au then bif e.name==a.name then bif (e.scope==a.scope)then O 40 else d (Wk.wrap (b+1),())else d (Wk.wrap (b+1),())else d (Wk.wrap (b+1),())else j ((),())) N (0,())
abbrev agT:bZ U:=⟨[cg,.I],[.v .I],Y,.pure (Xb N)⟩
def agU:Holds 103 (agT N):=gP N f103 (.q (.q (.q (.q (.seq (O ⟨F,[5],[],[5],[]⟩) (.B ⟨F,[1,2,5],[(6,.val .I)],[2,5],[]⟩ .leaf) .leaf))))) (cn (Rm N) nl)
def Xc:Z l7->V aa:=λb=>aG (λ((i,_):Int×ab)=>O (i==(b.length:Int))) λj=>aQ (λk(((a,d),_):((Z Int)×Int)×ab)=>bif 0<(a.length:Int)then(ax a (Wk.wrap ((a.length:Int)-1))).bind λc=>(dv (decide (0<=Wk.wrap ((a.length:Int)-1))&&decide ((Wk.wrap ((a.length:Int)-1)).toNat<=a.length))).bind λ_=>bif !(c==d)then O F else bif (b.length:Int)<=c then O F else(ax b c).bind λl=>bif (b.length:Int)<(l.args.length:Int)then O F else(ax b c).bind λm=>aQ (λn(((e,f),_):((Z Int)×Int)×ab)=>bif 0<=f then(ax b c).bind λo=>(ax o.args f).bind λg=>(dv (cF 8 (e.length+[g].length) 140737488355328)).bind λ_=>n ((e++[g],Wk.wrap (f-1)),())else k ((e,Wk.wrap (d+1)),())) N ((a.take ((Wk.wrap ((a.length:Int)-1)).toNat),Wk.wrap ((m.args.length:Int)-1)),())else j (d,())) N (([0],0),())
abbrev agV:bZ U:=⟨[eF],[.v .bool],Y,.pure (Xc N)⟩
def agW:Holds 231 (agV N):=gP N f231 (.q (.q (.q (.seq (O ⟨F,[0],[(4,.val .I)],[],[]⟩) (.block (.w [0] [(3,.bR 3 .I 3),(4,.val .I)] (.q (.block (.q (.q (.q (.q (.W [0,4,5,26,27,28,29,32,33,34,35,36,37,38,39,40] [(3,.bR 3 .I 3),(6,.val .I)]))))))))) .leaf)))) nl
def Ug:Z l7->V Int:=λd=>bif 64<(d.length:Int)then O 4 else aG (λ(_:ab×ab)=>(Xc N d).bind λe=>bif !e then O 2 else O 0) λf=>aQ (λc((b,_):Int×ab)=>bif b<d.length then(ax d b).bind λa=>bif a.kind<1 then O 2 else bif 5<a.kind then O 2 else bif a.kind==1 then bif !(a.name==[])then O 2 else bif !(a.kind==1)then(sq N a.name).bind λg=>bif !g then O 2 else bif a.num<0 then O 2 else bif !(a.kind==2)then bif !(a.num==0)then O 2 else bif !(a.kind==4)then bif 0<(a.args.length:Int)then O 2 else c (Wk.wrap (b+1),())else c (Wk.wrap (b+1),())else bif !(a.kind==4)then bif 0<(a.args.length:Int)then O 2 else c (Wk.wrap (b+1),())else c (Wk.wrap (b+1),())else bif a.num<0 then O 2 else bif !(a.kind==2)then bif !(a.num==0)then O 2 else bif !(a.kind==4)then bif 0<(a.args.length:Int)then O 2 else c (Wk.wrap (b+1),())else c (Wk.wrap (b+1),())else bif !(a.kind==4)then bif 0<(a.args.length:Int)then O 2 else c (Wk.wrap (b+1),())else c (Wk.wrap (b+1),())else bif !(a.kind==1)then(sq N a.name).bind λi=>bif !i then O 2 else bif a.num<0 then O 2 else bif !(a.kind==2)then bif !(a.num==0)then O 2 else bif !(a.kind==4)then bif 0<(a.args.length:Int)then O 2 else c (Wk.wrap (b+1),())else c (Wk.wrap (b+1),())else bif !(a.kind==4)then bif 0<(a.args.length:Int)then O 2 else c (Wk.wrap (b+1),())else c (Wk.wrap (b+1),())else bif a.num<0 then O 2 else bif !(a.kind==2)then bif !(a.num==0)then O 2 else bif !(a.kind==4)then bif 0<(a.args.length:Int)then O 2 else c (Wk.wrap (b+1),())else c (Wk.wrap (b+1),())else bif !(a.kind==4)then bif 0<(a.args.length:Int)then O 2 else c (Wk.wrap (b+1),())else c (Wk.wrap (b+1),())else f ((),())) N (0,())
abbrev agX:bZ U:=⟨[eF],[.v .I],Y,.pure (Ug N)⟩
def agY:Holds 197 (agX N):=gP N f197 (.q (.q (.seq (O ⟨F,[0],[],[],[]⟩) (.W [0] [(3,.val .I)]) .leaf))) (cn (Rm N) (cn (agW N) nl))
def Xd:dA×Int->V (Int×Int):=λ(a,d)=>bif 256<=d then O (0,4)else(sq N a.au).bind λe=>bif !e then O (0,2)else(Ug N a.left).bind λb=>bif !(b==0)then O (1,b)else(Ug N a.right).bind λc=>bif !(c==0)then O (2,c)else O (0,0)
abbrev agZ:bZ U:=⟨[fZ,.I],[.v .I,.v .I],Y,.pure (Xd N)⟩
def ag0:Holds 104 (agZ N):=gP N f104 .leaf (cn (Rm N) (cn (agY N) nl))
def Xe:dc×Int->V (Int×Int):=λ(e,c)=>(ax e.eL c).bind λb=>bif 256<=c then O (0,4)else(sq N b.au).bind λf=>bif !f then O (0,2)else aG (λ(_:ab×ab)=>bif 64<(b.cells.length:Int)then O (65,4)else aG (λ(_:ab×ab)=>O (0,0)) λg=>aQ (λi((a,_):Int×ab)=>bif a<b.cells.length then(ax b.cells a).bind λj=>bif j.kind<1 then O (Wk.wrap (a+1),2)else(ax b.cells a).bind λk=>bif 6<k.kind then O (Wk.wrap (a+1),2)else(ax b.cells a).bind λl=>(ax b.cells a).bind λm=>bif 4096<Wk.wrap ((l.text.length:Int)+(m.mark.length:Int))then O (Wk.wrap (a+1),3)else i (Wk.wrap (a+1),())else g ((),())) N (0,())) λn=>aQ (λo((d,_):Int×ab)=>bif d<c then(ax e.eL d).bind λp=>bif p.au==b.au then O (0,40)else o (Wk.wrap (d+1),())else n ((),())) N (0,())
abbrev ag1:bZ U:=⟨[cg,.I],[.v .I,.v .I],Y,.pure (Xe N)⟩
def ag2:Holds 105 (ag1 N):=gP N f105 (.q (.q (.q (.q (.seq (O ⟨F,[6],[],[6],[]⟩) (.B ⟨F,[1,2,6],[(7,.val .I)],[2,6],[]⟩ .leaf) (.q (.J (.B ⟨F,[6],[(8,.val .I)],[6],[]⟩ .leaf) .leaf))))))) (cn (Rm N) nl)
def Xf:dc×Int->V (Int×Int):=λ(e,c)=>(ax e.c7 c).bind λb=>bif 256<=c then O (0,4)else(sq N b.au).bind λf=>bif !f then O (0,2)else aG (λ(_:ab×ab)=>bif 64<(b.eU.length:Int)then O (65,4)else aG (λ(_:ab×ab)=>O (0,0)) λg=>aQ (λi((a,_):Int×ab)=>bif a<b.eU.length then(ax b.eU a).bind λj=>bif j.kind<1 then O (Wk.wrap (a+1),2)else(ax b.eU a).bind λk=>bif 5<k.kind then O (Wk.wrap (a+1),2)else(ax b.eU a).bind λl=>(ax b.eU a).bind λm=>bif 4096<Wk.wrap ((l.text.length:Int)+(m.mark.length:Int))then O (Wk.wrap (a+1),3)else i (Wk.wrap (a+1),())else g ((),())) N (0,())) λn=>aQ (λo((d,_):Int×ab)=>bif d<c then(ax e.c7 d).bind λp=>bif p.au==b.au then O (0,40)else o (Wk.wrap (d+1),())else n ((),())) N (0,())
abbrev ag3:bZ U:=⟨[cg,.I],[.v .I,.v .I],Y,.pure (Xf N)⟩
def ag4:Holds 106 (ag3 N):=gP N f106 (.q (.q (.q (.q (.seq (O ⟨F,[6],[],[6],[]⟩) (.B ⟨F,[1,2,6],[(7,.val .I)],[2,6],[]⟩ .leaf) (.q (.J (.B ⟨F,[6],[(8,.val .I)],[6],[]⟩ .leaf) .leaf))))))) (cn (Rm N) nl)
def F35:dc->V h9:=λa=>(sq N a.name).bind λo=>bif !o then(Dv N (0,0,0,2)).bind λp=>O p else bif a.version<1 then(Dv N (0,1,0,2)).bind λr=>O r else aG (λ(_:ab×ab)=>aG (λ(_:ab×ab)=>aG (λ(_:ab×ab)=>aG (λ(_:ab×ab)=>aG (λ(_:ab×ab)=>aG (λ(_:ab×ab)=>O (h9.mk 0 0 0 0)) λs=>aQ (λt((c,_):Int×ab)=>bif c<a.c7.length then(Xf N (a,c)).bind λi=>bif !(i.2==0)then(Dv N (6,c,i.1,i.2)).bind λu=>O u else t (Wk.wrap (c+1),())else s ((),())) N (0,())) λy=>aQ (λz((d,_):Int×ab)=>bif d<a.eL.length then(Xe N (a,d)).bind λj=>bif !(j.2==0)then(Dv N (5,d,j.1,j.2)).bind λb0=>O b0 else z (Wk.wrap (d+1),())else y ((),())) N (0,())) λh=>aQ (λq((b,_):Int×ab)=>bif b<a.equations.length then(ax a.equations b).bind λv=>(Xd N (v,b)).bind λk=>bif !(k.2==0)then(Dv N (4,b,k.1,k.2)).bind λw=>O w else q (Wk.wrap (b+1),())else h ((),())) N (0,())) λx=>aQ (λm0((e,_):Int×ab)=>bif e<a.eu.length then(Xb N (a,e)).bind λm=>bif !(m==0)then(Dv N (3,e,0,m)).bind λA=>O A else m0 (Wk.wrap (e+1),())else x ((),())) N (0,())) λB=>aQ (λC((f,_):Int×ab)=>bif f<a.bC.length then(Xa N (a,f)).bind λl=>bif !(l.2==0)then(Dv N (2,f,l.1,l.2)).bind λD=>O D else C (Wk.wrap (f+1),())else B ((),())) N (0,())) λE=>aQ (λG((g,_):Int×ab)=>bif g<a.tv.length then(W9 N (a,g)).bind λn=>bif !(n==0)then(Dv N (1,g,0,n)).bind λw0=>O w0 else G (Wk.wrap (g+1),())else E ((),())) N (0,())
abbrev K35:bZ U:=⟨[cg],[.v fq],Y,.pure (F35 N)⟩
def G35:Holds 35 (K35 N):=gP N f35 (.q (.q (.q (.seq (O ⟨F,[1,2],[],[1,2],[]⟩) (.B ⟨F,[1,2],[(3,.val .I)],[1,2],[]⟩ .leaf) (.seq (O ⟨F,[1,2],[],[1,2],[]⟩) (.B ⟨F,[1,2],[(5,.val .I)],[1,2],[]⟩ .leaf) (.seq (O ⟨F,[1,2],[],[1,2],[]⟩) (.B ⟨F,[1,2],[(8,.val .I)],[1,2],[]⟩ .leaf) (.seq (O ⟨F,[1,2],[],[1,2],[]⟩) (.B ⟨F,[1,2],[(10,.val .I)],[1,2],[]⟩ .leaf) (.seq (O ⟨F,[1,2],[],[1,2],[]⟩) (.B ⟨F,[1,2],[(13,.val .I)],[1,2],[]⟩ .leaf) (.seq (O ⟨F,[2],[],[2],[]⟩) (.B ⟨F,[1,2],[(16,.val .I)],[1,2],[]⟩ .leaf) .leaf))))))))) (cn (Rm N) (cn (agI N) (cn (agK N) (cn (agS N) (cn (agU N) (cn (ag0 N) (cn (ag2 N) (cn (ag4 N) nl))))))))
def Xg:dc×bP->V (dQ×aa):=λ(b,c)=>aG (λ(_:ab×ab)=>O (dQ.mk [] [] F [] [] [],F)) λd=>aQ (λe((a,_):Int×ab)=>bif a<b.bC.length then(ax b.bC a).bind λf=>bif f.name==c then(ax b.bC a).bind λg=>O (g,W)else e (Wk.wrap (a+1),())else d ((),())) N (0,())
abbrev ag5:bZ U:=⟨[cg,.str],[.v bQ,.v .bool],Y,.pure (Xg N)⟩
def ag6:Holds 198 (ag5 N):=gP N f198 (.q (.seq (O ⟨F,[4],[],[4],[]⟩) (.B ⟨F,[1,2,4],[(6,.val .I)],[2,4],[]⟩ .leaf) .leaf)) nl
def yG:(Z dc)×bP->V (dQ×Int×aa):=λ(b,d)=>aG (λ(_:ab×ab)=>O (dQ.mk [] [] F [] [] [],0,F)) λe=>aQ (λf((a,_):Int×ab)=>bif a<b.length then(ax b a).bind λg=>(Xg N (g,d)).bind λc=>bif c.2 then O (c.1,a,W)else f (Wk.wrap (a+1),())else e ((),())) N (0,())
abbrev ag7:bZ U:=⟨[aY,.str],[.v bQ,.v .I,.v .bool],Y,.pure (yG N)⟩
def Qw:Holds 107 (ag7 N):=gP N f107 (.q (.seq (O ⟨F,[4],[],[4],[]⟩) (.B ⟨F,[0,1,4],[(7,.val .I)],[4],[]⟩ .leaf) .leaf)) (cn (ag6 N) nl)
def F36:(Z dc)×Int×Int->V (Int×Int):=λ(a,b,d)=>aG (λ((f,_):Int×ab)=>bif 128<=f then O (0,4)else(ax a b).bind λg=>(ax g.bC d).bind λi=>(yG N (a,i.name)).bind λj=>bif j.2.1<b then O (0,40)else O (0,0)) λk=>aQ (λl(((e,c),_):(Int×Int)×ab)=>bif c<b then(ax a c).bind λm=>l ((Wk.wrap (e+(m.bC.length:Int)),Wk.wrap (c+1)),())else k (e,())) N ((d,0),())
abbrev K36:bZ U:=⟨[aY,.I,.I],[.v .I,.v .I],Y,.pure (F36 N)⟩
def G36:Holds 36 (K36 N):=gP N f36 (.q (.q (.seq (O ⟨F,[0,1,2],[(8,.val .I)],[],[]⟩) (.W [0,1,2] [(8,.val .I),(9,.val .I)]) .leaf))) (cn (Qw N) nl)
def Nb:(Z dc)×bP->V (Z dQ):=λ(e,m)=>(yG N (e,m)).bind λa=>aG (λ((n,_):(Z dQ)×ab)=>O n) λf=>aQ (λo(((c,p,g,d,i,j,k,l),_):((Z dQ)×aa×bP×bP×aa×(Z fO)×(Z hZ)×(Z gR))×ab)=>bif p then bif (c.length:Int)<=128 then(dv (cF 112 (c.length+[dQ.mk g d i j k l].length) 140737488355328)).bind λ_=>(yG N (e,d)).bind λb=>o ((c++[dQ.mk g d i j k l],b.2.2,b.1.name,b.1.dI,b.1.mL,b.1.bd,b.1.aD,b.1.bK),())else f (c,())else f (c,())) N (([],a.2.2,a.1.name,a.1.dI,a.1.mL,a.1.bd,a.1.aD,a.1.bK),())
abbrev ag8:bZ U:=⟨[aY,.str],[.bR bQ 144],Y,.pure (Nb N)⟩
def aaw:Holds 108 (ag8 N):=gP N f108 (.q (.q (.q (.seq (O ⟨F,[],[(5,.bR 5 bQ 144)],[],[]⟩) (.block (.loop ⟨F,[0,6],[(5,.bR 5 bQ 144),(8,.val .bool)],[],[(6,.cells bQ [.val .str,.val .str,.val .bool,.val gJ,.val gK,.val gL])]⟩ .leaf)) .leaf)))) (cn (Qw N) nl)
def F37:(Z dc)×Int×Int->V (Int×Int):=λ(b,g,i)=>(ax b g).bind λj=>(ax j.bC i).bind λa=>(yG N (b,a.dI)).bind λk=>bif !(a.dI==[])then bif !k.2.2 then O (0,42)else(Nb N (b,a.name)).bind λe=>aG (λ(_:ab×ab)=>O (0,0)) λl=>aQ (λm((c,_):Int×ab)=>bif c<e.length then(ax e c).bind λn=>bif n.name==a.name then O (0,43)else m (Wk.wrap (c+1),())else l ((),())) N (1,())else(Nb N (b,a.name)).bind λf=>aG (λ(_:ab×ab)=>O (0,0)) λo=>aQ (λp((d,_):Int×ab)=>bif d<f.length then(ax f d).bind λr=>bif r.name==a.name then O (0,43)else p (Wk.wrap (d+1),())else o ((),())) N (1,())
abbrev K37:bZ U:=⟨[aY,.I,.I],[.v .I,.v .I],Y,.pure (F37 N)⟩
def G37:Holds 37 (K37 N):=gP N f37 (.q (.q (.q (.q (.q (.J (.B ⟨F,[8,12],[(13,.val .I)],[8,12],[]⟩ .leaf) .leaf)))))) (cn (Qw N) (cn (aaw N) nl))
def Uh:(Z dc)×bP->V dQ:=λ(m,n)=>(Nb N (m,n)).bind λa=>(ax a 0).bind λo=>(ax a 0).bind λp=>(ax a 0).bind λr=>aG (λ(((s,t,u,y,z,b0),_):(bP×bP×aa×(Z fO)×(Z hZ)×(Z gR))×ab)=>O (dQ.mk s t u y z b0)) λh=>aQ (λq(((b,f,g,i,c,d,e),_):(Int×bP×bP×aa×(Z fO)×(Z hZ)×(Z gR))×ab)=>bif 0<=b then(ax a b).bind λj=>(dv (cF 24 (c.length+j.bd.length) 140737488355328)).bind λ_=>(ax a b).bind λk=>(dv (cF 48 (d.length+k.aD.length) 140737488355328)).bind λ_=>(ax a b).bind λl=>(dv (cF 40 (e.length+l.bK.length) 140737488355328)).bind λ_=>q ((Wk.wrap (b-1),f,g,i,c++j.bd,d++k.aD,e++l.bK),())else h ((f,g,i,c,d,e),())) N ((Wk.wrap ((a.length:Int)-1),o.name,p.dI,r.mL,[],[],[]),())
abbrev ag9:bZ U:=⟨[aY,.str],[.v bQ],Y,.pure (Uh N)⟩
def acp:Holds 109 (ag9 N):=gP N f109 (.q (.q (.q (.seq (O ⟨F,[4,6],[],[4],[(6,.cells bQ [.val .str,.val .str,.val .bool,.bR 500603 fX 157,.bR 500604 fY 159,.bR 500605 fm 161])]⟩) (.B ⟨F,[4,5,6],[(7,.val .I)],[4,5],[(6,.cells bQ [.val .str,.val .str,.val .bool,.bR 500603 fX 157,.bR 500604 fY 159,.bR 500605 fm 161])]⟩ .leaf) .leaf)))) (cn (aaw N) nl) [(23,999)]
def F38:(Z dc)×Int×Int->V (Int×Int):=λ(f,n,o)=>(ax f n).bind λp=>(ax p.bC o).bind λg=>(Uh N (f,g.name)).bind λa=>aG (λ((r,_):Int×ab)=>aG (λ((s,_):Int×ab)=>aG (λ(_:ab×ab)=>O (0,0)) λt=>aQ (λu(((i,b),_):(Int×Int)×ab)=>bif b<a.bK.length then bif 32<=b then O (Wk.wrap (i+1),4)else aG (λ(_:ab×ab)=>(ax a.bK b).bind λy=>(yG N (f,y.au)).bind λz=>bif !z.2.2 then O (Wk.wrap (i+1),42)else u ((Wk.wrap (i+1),Wk.wrap (b+1)),())) λb0=>aQ (λh((k,_):Int×ab)=>bif k<b then(ax a.bK k).bind λq=>(ax a.bK b).bind λv=>bif q.role==v.role then O (Wk.wrap (i+1),40)else h (Wk.wrap (k+1),())else b0 ((),())) N (0,())else t ((),())) N ((s,Wk.wrap ((a.bK.length:Int)-(g.bK.length:Int))),())) λw=>aQ (λx(((d,c),_):(Int×Int)×ab)=>bif c<a.aD.length then bif 32<=c then O (Wk.wrap (d+1),4)else aG (λ(_:ab×ab)=>(ax a.aD c).bind λm0=>(yG N (f,m0.au)).bind λA=>bif !A.2.2 then O (Wk.wrap (d+1),42)else x ((Wk.wrap (d+1),Wk.wrap (c+1)),())) λB=>aQ (λC((l,_):Int×ab)=>bif l<c then(ax a.aD l).bind λD=>(ax a.aD c).bind λE=>bif D.role==E.role then O (Wk.wrap (d+1),40)else C (Wk.wrap (l+1),())else B ((),())) N (0,())else w (d,())) N ((r,Wk.wrap ((a.aD.length:Int)-(g.aD.length:Int))),())) λG=>aQ (λw0(((j,e),_):(Int×Int)×ab)=>bif e<a.bd.length then aG (λ((H,_):Int×ab)=>w0 ((H,Wk.wrap (e+1)),())) λI=>bif 32<=e then O (Wk.wrap (j+1),4)else aQ (λJ((m,_):Int×ab)=>bif m<e then(ax a.bd m).bind λK=>(ax a.bd e).bind λL=>bif K.name==L.name then O (Wk.wrap (j+1),40)else J (Wk.wrap (m+1),())else I (Wk.wrap (j+1),())) N (0,())else G (j,())) N ((0,Wk.wrap ((a.bd.length:Int)-(g.bd.length:Int))),())
abbrev K38:bZ U:=⟨[aY,.I,.I],[.v .I,.v .I],Y,.pure (F38 N)⟩
def G38:Holds 38 (K38 N):=gP N f38 (.q (.q (.q (.q (.seq (O ⟨F,[0,8,9],[(10,.val .I)],[8,9],[]⟩) (.B ⟨F,[0,8,9],[(10,.val .I),(11,.val .I)],[8,9],[]⟩ (.q (.seq (O ⟨F,[0,8,9,11],[(10,.val .I)],[8,9],[]⟩) (.block (.q (.q (.B ⟨F,[0,8,9,10,11],[(12,.val .I)],[8,9],[]⟩ .leaf)))) .leaf))) (.seq (O ⟨F,[0,8,9],[(10,.val .I)],[8,9],[]⟩) (.B ⟨F,[0,8,9],[(10,.val .I),(13,.val .I)],[8,9],[]⟩ (.q (.seq Y (.block (.q (.q (.seq (O ⟨F,[0,8,9,10,13],[],[8,9],[]⟩) (.B ⟨F,[0,8,9,10,13],[(14,.val .I)],[8,9],[]⟩ .leaf) .leaf)))) .leaf))) (.J (.B ⟨F,[0,9],[(10,.val .I),(18,.val .I)],[9],[]⟩ (.q (.seq Y (.block (.q (.q (.seq (O ⟨F,[0,9,10,18],[],[9],[]⟩) (.B ⟨F,[0,9,10,18],[(19,.val .I)],[9],[]⟩ .leaf) .leaf)))) .leaf))) .leaf))))))) (cn (Qw N) (cn (acp N) nl))
def Xh:(Z dc)×Int×Int->V Int:=λ(b,i,n)=>(ax b i).bind λo=>(ax o.eu n).bind λa=>(yG N (b,a.au)).bind λp=>bif !p.2.2 then O 42 else aG (λ(_:ab×ab)=>aG (λ(_:ab×ab)=>O 0) λr=>aQ (λs((d,_):Int×ab)=>bif d<i then aG (λ(_:ab×ab)=>s (Wk.wrap (d+1),())) λt=>aQ (λf((c,_):Int×ab)=>(ax b d).bind λu=>bif c<u.eu.length then(ax b d).bind λy=>(ax y.eu c).bind λg=>bif g.au==a.au then bif g.name==a.name then bif (g.scope==a.scope)then O 40 else f (Wk.wrap (c+1),())else f (Wk.wrap (c+1),())else f (Wk.wrap (c+1),())else t ((),())) N (0,())else r ((),())) N (0,())) λj=>bif a.scope then(Uh N (b,a.au)).bind λk=>aG (λ((z,_):aa×ab)=>bif !z then O 42 else j ((),())) λb0=>aQ (λl(((m,e),_):(aa×Int)×ab)=>bif e<k.bK.length then bif m then l ((W,Wk.wrap (e+1)),())else(ax k.bK e).bind λh=>l ((h.role==a.name,Wk.wrap (e+1)),())else b0 (m,())) N ((F,0),())else j ((),())
abbrev aha:bZ U:=⟨[aY,.I,.I],[.v .I],Y,.pure (Xh N)⟩
def ahb:Holds 110 (aha N):=gP N f110 (.q (.q (.q (.q (.seq (O ⟨F,[0,1,7],[],[7],[]⟩) (.q (.cond (.q (.q (.seq (O ⟨F,[0,1,7],[(12,.val .bool)],[7],[]⟩) (.B ⟨F,[0,1,7,11],[(12,.val .bool),(13,.val .I)],[7,11],[]⟩ .leaf) .leaf))) .leaf)) (.J (.B ⟨F,[0,1,7],[(14,.val .I)],[7],[]⟩ (.q (.seq (O ⟨F,[0,1,7,14],[],[7],[]⟩) (.block (.B ⟨F,[0,1,7,14],[(15,.val .I)],[7],[]⟩ .leaf)) .leaf))) .leaf)))))) (cn (Qw N) (cn (acp N) nl))
def F39:(Z dc)×Int->V h9:=λ(b,a)=>(ax b a).bind λc=>aG (λ(_:ab×ab)=>aG (λ(_:ab×ab)=>aG (λ(_:ab×ab)=>aG (λ(_:ab×ab)=>O (h9.mk 0 0 0 0)) λp=>aQ (λr((d,_):Int×ab)=>bif d<c.c7.length then aG (λ(_:ab×ab)=>r (Wk.wrap (d+1),())) λs=>(ax c.c7 d).bind λm=>(yG N (b,m.au)).bind λt=>bif !t.2.2 then(Rl N (a,6,d,0,42)).bind λu=>O u else aQ (λy((f,_):Int×ab)=>bif f<a then aG (λ(_:ab×ab)=>y (Wk.wrap (f+1),())) λz=>aQ (λb0((k,_):Int×ab)=>(ax b f).bind λh=>bif k<h.c7.length then(ax b f).bind λq=>(ax q.c7 k).bind λv=>bif v.au==m.au then(Rl N (a,6,d,0,40)).bind λw=>O w else b0 (Wk.wrap (k+1),())else z ((),())) N (0,())else s ((),())) N (0,())else p ((),())) N (0,())) λx=>aQ (λm0((e,_):Int×ab)=>bif e<c.eL.length then aG (λ(_:ab×ab)=>m0 (Wk.wrap (e+1),())) λA=>(ax c.eL e).bind λn=>(yG N (b,n.au)).bind λB=>bif !B.2.2 then(Rl N (a,5,e,0,42)).bind λC=>O C else aQ (λD((g,_):Int×ab)=>bif g<a then aG (λ(_:ab×ab)=>D (Wk.wrap (g+1),())) λE=>aQ (λG((l,_):Int×ab)=>(ax b g).bind λw0=>bif l<w0.eL.length then(ax b g).bind λH=>(ax H.eL l).bind λI=>bif I.au==n.au then(Rl N (a,5,e,0,40)).bind λJ=>O J else G (Wk.wrap (l+1),())else E ((),())) N (0,())else A ((),())) N (0,())else x ((),())) N (0,())) λK=>aQ (λL((i,_):Int×ab)=>bif i<c.equations.length then(ax c.equations i).bind λP=>(yG N (b,P.au)).bind λQ=>bif !Q.2.2 then(Rl N (a,4,i,0,42)).bind λR=>O R else L (Wk.wrap (i+1),())else K ((),())) N (0,())) λS=>aQ (λT((j,_):Int×ab)=>bif j<c.eu.length then(Xh N (b,a,j)).bind λo=>bif !(o==0)then(Rl N (a,3,j,0,o)).bind λU=>O U else T (Wk.wrap (j+1),())else S ((),())) N (0,())
abbrev K39:bZ U:=⟨[aY,.I],[.v fq],Y,.pure (F39 N)⟩
def G39:Holds 39 (K39 N):=gP N f39 (.q (.q (.seq (O ⟨F,[0,1,4,5],[],[4,5],[]⟩) (.B ⟨F,[0,1,4,5],[(6,.val .I)],[4,5],[]⟩ .leaf) (.seq (O ⟨F,[0,1,4,5],[],[4,5],[]⟩) (.B ⟨F,[0,1,4,5],[(8,.val .I)],[4,5],[]⟩ .leaf) (.seq (O ⟨F,[0,1,4,5],[],[4,5],[]⟩) (.B ⟨F,[0,1,4,5],[(12,.val .I)],[4,5],[]⟩ (.q (.seq (O ⟨F,[0,1,4,5,12],[],[4,5],[]⟩) (.block (.q (.q (.q (.B ⟨F,[0,1,4,5,12,13],[(17,.val .I)],[4,5],[]⟩ (.q (.seq (O ⟨F,[0,1,4,5,12,13,17],[],[4,5],[]⟩) (.block (.B ⟨F,[0,1,4,5,12,13,17],[(18,.val .I)],[4,5],[]⟩ .leaf)) .leaf))))))) .leaf))) (.seq (O ⟨F,[4],[],[4],[]⟩) (.B ⟨F,[0,1,4,5],[(19,.val .I)],[4,5],[]⟩ (.q (.seq (O ⟨F,[0,1,4,5,19],[],[4,5],[]⟩) (.block (.q (.q (.q (.B ⟨F,[0,1,4,5,19,20],[(24,.val .I)],[4,5],[]⟩ (.q (.seq (O ⟨F,[0,1,4,5,19,20,24],[],[4,5],[]⟩) (.block (.B ⟨F,[0,1,4,5,19,20,24],[(25,.val .I)],[4,5],[]⟩ .leaf)) .leaf))))))) .leaf))) .leaf)))))) (cn (G34 N) (cn (Qw N) (cn (ahb N) nl)))
def F14:Z dc->V h9:=λa=>bif 128<(a.length:Int)then(Rl N (128,0,0,0,4)).bind λr=>O r else aG (λ(_:ab×ab)=>aG (λ(_:ab×ab)=>aG (λ(_:ab×ab)=>aG (λ(_:ab×ab)=>O (h9.mk 0 0 0 0)) λs=>aQ (λt((i,_):Int×ab)=>bif i<a.length then(F39 N (a,i)).bind λl=>bif !(l.ka==0)then O l else t (Wk.wrap (i+1),())else s ((),())) N (0,())) λu=>aQ (λy((f,_):Int×ab)=>bif f<3 then aG (λ(_:ab×ab)=>y (Wk.wrap (f+1),())) λz=>aQ (λb0((b,_):Int×ab)=>bif b<a.length then aG (λ(_:ab×ab)=>b0 (Wk.wrap (b+1),())) λh=>aQ (λq((c,_):Int×ab)=>(ax a b).bind λv=>bif c<v.bC.length then aG (λ(((w,m),_):(Int×Int)×ab)=>bif !(m==0)then(Rl N (b,2,c,w,m)).bind λx=>O x else q (Wk.wrap (c+1),())) λj=>bif f==0 then(F36 N (a,b,c)).bind λn=>j ((n.1,n.2),())else bif f==1 then(F37 N (a,b,c)).bind λo=>j ((o.1,o.2),())else(F38 N (a,b,c)).bind λp=>j ((p.1,p.2),())else h ((),())) N (0,())else z ((),())) N (0,())else u ((),())) N (0,())) λm0=>aQ (λA((d,_):Int×ab)=>bif d<a.length then aG (λ(_:ab×ab)=>A (Wk.wrap (d+1),())) λB=>aQ (λC((k,_):Int×ab)=>bif k<d then(ax a k).bind λD=>(ax a d).bind λE=>bif D.name==E.name then(Rl N (d,0,0,0,40)).bind λG=>O G else C (Wk.wrap (k+1),())else B ((),())) N (0,())else m0 ((),())) N (0,())) λw0=>aQ (λH((g,_):Int×ab)=>bif g<a.length then(ax a g).bind λI=>(F35 N I).bind λe=>bif !(e.ka==0)then(Rl N (g,e.Yq,e.Ic,e.part,e.ka)).bind λJ=>O J else H (Wk.wrap (g+1),())else w0 ((),())) N (0,())
abbrev K14:bZ U:=⟨[aY],[.v fq],Y,.pure (F14 N)⟩
def G14:Holds 14 (K14 N):=gP N f14 (.q (.q (.seq (O ⟨F,[0,2],[],[2],[]⟩) (.B ⟨F,[0,2],[(3,.val .I)],[2],[]⟩ .leaf) (.seq (O ⟨F,[0,2],[],[2],[]⟩) (.B ⟨F,[0,2],[(5,.val .I)],[2],[]⟩ (.q (.seq (O ⟨F,[0,2,5],[],[2],[]⟩) (.block (.B ⟨F,[0,2,5],[(6,.val .I)],[2],[]⟩ .leaf)) .leaf))) (.seq (O ⟨F,[0,2],[],[2],[]⟩) (.B ⟨F,[0,2],[(7,.val .I)],[2],[]⟩ (.q (.seq (O ⟨F,[0,2,7],[],[2],[]⟩) (.block (.B ⟨F,[0,2,7],[(8,.val .I)],[2],[]⟩ (.q (.seq (O ⟨F,[0,2,7,8],[],[2],[]⟩) (.block (.B ⟨F,[0,2,7,8],[(9,.val .I)],[2],[]⟩ (.q (.seq Y (.block (.q (.seq (O ⟨F,[0,2,7,8,9],[(10,.val .I),(11,.val .I)],[2],[]⟩) .leaf .leaf))) .leaf)))) .leaf)))) .leaf))) (.seq (O ⟨F,[2],[],[2],[]⟩) (.B ⟨F,[0,2],[(12,.val .I)],[2],[]⟩ .leaf) .leaf)))))) (cn (G34 N) (cn (G35 N) (cn (G36 N) (cn (G37 N) (cn (G38 N) (cn (G39 N) nl))))))
def Nc:gB×Int->V Int:=λ(c,e)=>aG (λ((d,_):Int×ab)=>bif d<c.aj.length then(ax c.aj d).bind λg=>bif g.iD==e then O d else O (-1)else O (-1)) λh=>aQ (λf(((a,b),_):(Int×Int)×ab)=>bif a<b then(dv (decide (2≠0))).bind λ_=>(ax c.aj (Wk.wrap ((Wk.wrap (a+b)).tdiv 2))).bind λi=>bif i.iD<e then f ((Wk.wrap ((Wk.wrap ((Wk.wrap (a+b)).tdiv 2))+1),b),())else f ((a,Wk.wrap ((Wk.wrap (a+b)).tdiv 2)),())else h (a,())) N ((0,(c.aj.length:Int)),())
abbrev K24:bZ U:=⟨[cb,.I],[.v .I],Y,.pure (Nc N)⟩
def Xi:Holds 24 (K24 N):=gP N f24 (.q (.q (.seq (O ⟨F,[1,2],[(5,.val .I)],[2],[]⟩) (.block (.loop ⟨F,[1,2],[(5,.val .I),(6,.val .I)],[2],[]⟩ .leaf)) .leaf))) nl
def Nf:bP->V aa:=λb=>aG (λ((e,_):bP×ab)=>aG (λ((j,_):aa×ab)=>bif j then O F else aG (λ(_:ab×ab)=>O W) λk=>aQ (λl((f,_):Int×ab)=>bif f<e.length then(ax e f).bind λa=>aG (λ((m,_):aa×ab)=>aG (λ((n,_):aa×ab)=>bif n then O F else l (Wk.wrap (f+1),())) λc=>bif !m then bif f==0 then c (W,())else bif !((a.toNat:Int)==95)then bif (a.toNat:Int)<48 then c (W,())else c ((decide (57<(a.toNat:Int))),())else c (F,())else c (F,())) λd=>bif 97<=(a.toNat:Int)then bif (a.toNat:Int)<=122 then d (W,())else bif 65<=(a.toNat:Int)then d ((decide ((a.toNat:Int)<=90)),())else d (F,())else bif 65<=(a.toNat:Int)then d ((decide ((a.toNat:Int)<=90)),())else d (F,())else k ((),())) N (0,())) λg=>bif (e.length:Int)<1 then g (W,())else g ((decide (32<(e.length:Int))),())) λh=>aG (λ((o,_):aa×ab)=>bif o then(dv (decide (0<=1)&&decide (1<=b.length))).bind λ_=>h ((b.drop 1),())else h (b,())) λi=>bif 0<(b.length:Int)then(ax b 0).bind λp=>i (((p.toNat:Int)==63),())else i (F,())
abbrev ahc:bZ U:=⟨[.str],[.v .bool],Y,.pure (Nf N)⟩
def acq:Holds 132 (ahc N):=gP N f132 (.q (.seq (O ⟨F,[],[(0,.val .str)],[],[]⟩) (.seq (O ⟨F,[0],[(13,.val .bool)],[],[]⟩) .leaf .leaf) (.seq Y (.seq (O ⟨F,[0],[(23,.val .bool)],[],[]⟩) .leaf .leaf) (.J (.q (.block (.w [0] [(3,.val .I)] (.q (.seq Y (.block (.q (.seq (O ⟨F,[0,3,4],[(5,.val .bool)],[],[]⟩) .leaf (.seq (O ⟨F,[0,3],[(64,.val .bool)],[],[]⟩) .leaf .leaf)))) .leaf))))) .leaf)))) nl
def F55:gB×Nd->V aa:=λ(d,a)=>(Nf N a.au).bind λj=>bif !j then O F else bif (d.aj.length:Int)<(a.aD.length:Int)then O F else aG (λ(_:ab×ab)=>aG (λ(_:ab×ab)=>(dv (decide (0<=(d.aj.length:Int))&&cF 1 ((d.aj.length:Int).toNat) 281474976710656)).bind λ_=>aG (λ(_:ab×ab)=>O W) λk=>aQ (λl(((f,g),_):(Int×(Z aa))×ab)=>bif f<a.aD.length then(ax a.aD f).bind λm=>(Nc N (d,m)).bind λe=>bif e<0 then O F else(ax d.aj e).bind λn=>bif !(n.cu==a.iD)then O F else(ax g e).bind λo=>bif o then O F else(ax g e).bind λC=>l ((Wk.wrap (f+1),g.set e.toNat W),())else k ((),())) N ((0,List.replicate (d.aj.length:Int).toNat (F:aa)),())) λp=>aQ (λh((b,_):Int×ab)=>bif b<a.bK.length then(ax a.bK b).bind λq=>(Nf N q.role).bind λr=>bif !r then O F else(ax a.bK b).bind λs=>bif s.target<1 then O F else(ax a.bK b).bind λt=>bif d.next<=t.target then O F else bif 0<b then(ax a.bK (Wk.wrap (b-1))).bind λu=>(ax a.bK b).bind λv=>bif !(Op.bytesLess u.role v.role)then O F else h (Wk.wrap (b+1),())else h (Wk.wrap (b+1),())else p ((),())) N (0,())) λw=>aQ (λi((c,_):Int×ab)=>bif c<a.bd.length then(ax a.bd c).bind λx=>(Nf N x.name).bind λy=>bif !y then O F else(ax a.bd c).bind λz=>bif 4096<(z.value.length:Int)then O F else bif 0<c then(ax a.bd (Wk.wrap (c-1))).bind λA=>(ax a.bd c).bind λB=>bif !(Op.bytesLess A.name B.name)then O F else i (Wk.wrap (c+1),())else i (Wk.wrap (c+1),())else w ((),())) N (0,())
abbrev K55:bZ U:=⟨[cb,cK],[.v .bool],Y,.pure (F55 N)⟩
def G55:Holds 55 (K55 N):=gP N f55 (.q (.q (.seq (O ⟨F,[2,3],[],[2,3],[]⟩) (.B ⟨F,[2,3],[(5,.val .I)],[2,3],[]⟩ .leaf) (.seq (O ⟨F,[2,3],[],[2,3],[]⟩) (.B ⟨F,[2,3],[(6,.val .I)],[2,3],[]⟩ .leaf) (.q (.J (.B ⟨F,[2,3,7],[(8,.val .I)],[2,3],[(7,.br .bool 4)]⟩ .leaf) .leaf)))))) (cn (Xi N) (cn (acq N) nl))
def Xj:(Z Int)×Int->V Int:=λ(b,c)=>aG (λ(_:ab×ab)=>O (-1)) λd=>aQ (λe((a,_):Int×ab)=>bif a<b.length then(ax b a).bind λf=>bif f==c then O a else e (Wk.wrap (a+1),())else d ((),())) N (0,())
abbrev ahd:bZ U:=⟨[ec,.I],[.v .I],Y,.pure (Xj N)⟩
def ahe:Holds 208 (ahd N):=gP N f208 (.q (.J (.W [0,1] [(5,.val .I)]) .leaf)) nl
def Xk:(Z Int)×Int->V aa:=λ(a,b)=>(Xj N (a,b)).bind λc=>O (decide (0<=c))
abbrev ahf:bZ U:=⟨[ec,.I],[.v .bool],Y,.pure (Xk N)⟩
def ahg:Holds 133 (ahf N):=gP N f133 .leaf (cn (ahe N) nl)
def F56:gB×Nd->V aa:=λ(c,a)=>aG (λ(_:ab×ab)=>O F) λh=>aQ (λi(((e,j,n,f,g,o,p,q),_):(Int×Int×bP×Int×bP×(Z Ku)×(Z Int)×(Z Rf))×ab)=>bif e<=64 then bif f==0 then O (g==[])else(Nc N (c,f)).bind λd=>bif d<0 then O F else(Nf N g).bind λk=>bif !k then O F else(ax c.aj d).bind λl=>(Xk N (l.aD,j)).bind λm=>bif !m then O F else(ax c.aj d).bind λb=>i ((Wk.wrap (e+1),b.iD,b.au,b.cu,b.role,b.bd,b.aD,b.bK),())else h ((),())) N ((1,a.iD,a.au,a.cu,a.role,a.bd,a.aD,a.bK),())
abbrev K56:bZ U:=⟨[cb,cK],[.v .bool],Y,.pure (F56 N)⟩
def G56:Holds 56 (K56 N):=gP N f56 (.q (.J (.B ⟨F,[2,3],[(5,.val .I)],[2],[(3,.cells cK [.val .I,.val .str,.val .I,.val .str,.val gN,.val ec,.val gO])]⟩ .leaf) .leaf)) (cn (Xi N) (cn (acq N) (cn (ahg N) nl)))
def GA:gB->V aa:=λa=>bif a.next<1 then O F else bif 1048577<a.next then O F else bif 4096<(a.aj.length:Int)then O F else aG (λ(_:ab×ab)=>aG (λ(_:ab×ab)=>O W) λe=>aQ (λf((c,_):Int×ab)=>bif c<a.aj.length then(ax a.aj c).bind λg=>(F55 N (a,g)).bind λh=>bif !h then O F else(ax a.aj c).bind λi=>(F56 N (a,i)).bind λj=>bif !j then O F else f (Wk.wrap (c+1),())else e ((),())) N (0,())) λk=>aQ (λd((b,_):Int×ab)=>bif b<a.aj.length then(ax a.aj b).bind λl=>bif l.iD<1 then O F else(ax a.aj b).bind λm=>bif a.next<=m.iD then O F else bif 0<b then(ax a.aj b).bind λn=>(ax a.aj (Wk.wrap (b-1))).bind λo=>bif n.iD<=o.iD then O F else d (Wk.wrap (b+1),())else d (Wk.wrap (b+1),())else k ((),())) N (0,())
abbrev K22:bZ U:=⟨[cb],[.v .bool],Y,.pure (GA N)⟩
def G22:Holds 22 (K22 N):=gP N f22 (.q (.q (.seq (O ⟨F,[1],[],[1],[]⟩) (.B ⟨F,[1],[(3,.val .I)],[1],[]⟩ .leaf) (.J (.B ⟨F,[1],[(4,.val .I)],[1],[]⟩ .leaf) .leaf)))) (cn (G55 N) (cn (G56 N) nl))
def Xl(N:Nat):Int->V Int:=λa=>bif a<1 then O (-1)else bif 34<a then O (-1)else bif a<=7 then O 0 else bif a<=19 then O 1 else bif a==29 then O 1 else bif a==30 then O 3 else O 2
abbrev ahh:bZ U:=⟨[.I],[.v .I],Y,.pure (Xl N)⟩
def ahi:Holds 134 (ahh N):=gP N f134 .leaf nl
def sr:bP->V aa:=λb=>aG (λ(_:ab×ab)=>O F) λc=>aQ (λd((a,_):Int×ab)=>bif a<([[97,110,100],[97,110,121],[99,111,110,99,101,112,116],[101,108,115,101],[101,110,100],[101,118,101,114,121],[102,97,108,115,101],[102,105,114,115,116],[105,100],[105,102],[105,110],[105,110,116],[110,111,110,101],[110,111,116],[111,110,108,121],[111,114],[115,101,108,102],[115,105,122,101],[115,117,109],[116,101,120,116],[116,104,101,110],[116,114,117,101]].length:Int)then(ax [[97,110,100],[97,110,121],[99,111,110,99,101,112,116],[101,108,115,101],[101,110,100],[101,118,101,114,121],[102,97,108,115,101],[102,105,114,115,116],[105,100],[105,102],[105,110],[105,110,116],[110,111,110,101],[110,111,116],[111,110,108,121],[111,114],[115,101,108,102],[115,105,122,101],[115,117,109],[116,101,120,116],[116,104,101,110],[116,114,117,101]] a).bind λe=>bif e==b then O W else d (Wk.wrap (a+1),())else c ((),())) N (0,())
abbrev ahj:bZ U:=⟨[.str],[.v .bool],Y,.pure (sr N)⟩
def ahk:Holds 135 (ahj N):=gP N f135 (.q (.q (.J (.B ⟨F,[0,3],[(4,.val .I)],[3],[]⟩ .leaf) .leaf))) nl
def F57:cY->V aa:=λa=>(Xl N a.kind).bind λb=>bif !(b==(a.aD.length:Int))then O F else bif !(a.kind==1)then bif !(a.int==0)then O F else bif a.int==(-9223372036854775808)then O F else bif 7<=a.kind then bif a.kind<=13 then bif !(a.kind==11)then(sq N a.text).bind λc=>bif c then(sr N a.text).bind λd=>O (!d)else O F else bif 31<=a.kind then(sq N a.text).bind λe=>bif e then(sr N a.text).bind λf=>O (!f)else O F else bif a.kind==2 then bif (a.text.length:Int)<=4096 then O W else O (a.text==[])else O (a.text==[])else bif 31<=a.kind then(sq N a.text).bind λg=>bif g then(sr N a.text).bind λh=>O (!h)else O F else bif a.kind==2 then bif (a.text.length:Int)<=4096 then O W else O (a.text==[])else O (a.text==[])else bif 31<=a.kind then(sq N a.text).bind λi=>bif i then(sr N a.text).bind λj=>O (!j)else O F else bif a.kind==2 then bif (a.text.length:Int)<=4096 then O W else O (a.text==[])else O (a.text==[])else bif a.int==(-9223372036854775808)then O F else bif 7<=a.kind then bif a.kind<=13 then bif !(a.kind==11)then(sq N a.text).bind λk=>bif k then(sr N a.text).bind λl=>O (!l)else O F else bif 31<=a.kind then(sq N a.text).bind λm=>bif m then(sr N a.text).bind λn=>O (!n)else O F else bif a.kind==2 then bif (a.text.length:Int)<=4096 then O W else O (a.text==[])else O (a.text==[])else bif 31<=a.kind then(sq N a.text).bind λo=>bif o then(sr N a.text).bind λp=>O (!p)else O F else bif a.kind==2 then bif (a.text.length:Int)<=4096 then O W else O (a.text==[])else O (a.text==[])else bif 31<=a.kind then(sq N a.text).bind λq=>bif q then(sr N a.text).bind λr=>O (!r)else O F else bif a.kind==2 then bif (a.text.length:Int)<=4096 then O W else O (a.text==[])else O (a.text==[])
abbrev K57:bZ U:=⟨[cU],[.v .bool],Y,.pure (F57 N)⟩
def G57:Holds 57 (K57 N):=gP N f57 .leaf (cn (Rm N) (cn (ahi N) (cn (ahk N) nl)))
def F23:oF->V Int:=λb=>bif 256<(b.aj.length:Int)then O 4 else bif (b.aj.length:Int)==0 then O 80 else(dv (decide (0<=(b.aj.length:Int))&&cF 8 ((b.aj.length:Int).toNat) 281474976710656)).bind λ_=>(dv (decide (0<=(b.aj.length:Int))&&cF 8 ((b.aj.length:Int).toNat) 281474976710656)).bind λ_=>aG (λ(((l,m),_):((Z Int)×(Z Int))×ab)=>(ax l 0).bind λn=>bif !(n==(b.aj.length:Int))then O 80 else(ax m 0).bind λo=>bif 32<o then O 4 else O 0) λp=>aQ (λq(((a,e,i),_):(Int×(Z Int)×(Z Int))×ab)=>bif 0<=a then(ax b.aj a).bind λf=>(F57 N f).bind λr=>bif !r then O 80 else aG (λ(((s,g),_):(Int×(Z Int))×ab)=>(ax e a).bind λy=>(ax g a).bind λt=>(ax g a).bind λz=>q ((Wk.wrap (a-1),e.set a.toNat (Wk.wrap (s-a)),g.set a.toNat (Wk.wrap (t+1))),())) λu=>aQ (λv(((c,h,d),_):(Int×Int×(Z Int))×ab)=>bif h<f.aD.length then(ax f.aD h).bind λw=>bif !(w==c)then O 80 else bif (b.aj.length:Int)<=c then O 80 else(ax d a).bind λj=>(ax d c).bind λk=>(ax d a).bind λA=>(ax e c).bind λx=>v ((Wk.wrap (c+x),Wk.wrap (h+1),d.set a.toNat (bif j<k then k else j)),())else u ((c,d),())) N ((Wk.wrap (a+1),0,i),())else p ((e,i),())) N ((Wk.wrap ((b.aj.length:Int)-1),List.replicate (b.aj.length:Int).toNat (0:Int),List.replicate (b.aj.length:Int).toNat (0:Int)),())
abbrev K23:bZ U:=⟨[eD],[.v .I],Y,.pure (F23 N)⟩
def G23:Holds 23 (K23 N):=gP N f23 (.q (.q (.q (.q (.q (.seq (O ⟨F,[1,3,4],[],[1],[(3,.br .I 3),(4,.br .I 3)]⟩) (.B ⟨F,[1,3,4],[(5,.val .I)],[1],[(3,.br .I 3),(4,.br .I 3)]⟩ (.q (.seq Y (.block (.q (.q (.q (.seq (O ⟨F,[1,3,4,5],[(7,.val .I)],[1,3],[(4,.br .I 3)]⟩) (.B ⟨F,[1,3,4,5,6],[(7,.val .I),(8,.val .I)],[1,3,6],[(4,.br .I 3)]⟩ .leaf) .leaf))))) .leaf))) .leaf)))))) (cn (G57 N) nl)
def GB(N:Nat):V Nat->Hp->V (aa×Hp):=λb h=>
 b.bind λi1=>
 (h.nY[i1]?).bind λd=>
 bif d.left==0 then O (F,h)
 else
  b.bind λe=>
  (h.nY[e]?).bind λf=>
  b.bind λc=>
  (h.nY[c]?).bind λa=>
  cw {h with nY:=h.nY.set c (fv.mk a.ls a.m (oF.mk a.e.aj) a.self (Wk.wrap (f.left-1)))} λg=>
  O (W,g)
abbrev K58:bZ U:=⟨[jE],[.v .bool],Y,.st (GB N)⟩
def G58:Holds 58 (K58 N):=gS N f58 .leaf nl
def KI(N:Nat):Int->V dw:=λa=>O (dw.mk 1 a [] F 0 [])
abbrev ahl:bZ U:=⟨[.I],[.v bg],Y,.pure (KI N)⟩
def Xm:Holds 136 (ahl N):=gP N f136 .leaf nl
def KJ(N:Nat):bP->V dw:=λa=>O (dw.mk 2 0 a F 0 [])
abbrev ahm:bZ U:=⟨[.str],[.v bg],Y,.pure (KJ N)⟩
def Xn:Holds 137 (ahm N):=gP N f137 .leaf nl
def kc(N:Nat):aa->V dw:=λa=>O (dw.mk 3 0 [] a 0 [])
abbrev ahn:bZ U:=⟨[.bool],[.v bg],Y,.pure (kc N)⟩
def Ui:Holds 138 (ahn N):=gP N f138 .leaf nl
def Ir(N:Nat):Int->V dw:=λa=>O (dw.mk 4 0 [] F a [])
abbrev aho:bZ U:=⟨[.I],[.v bg],Y,.pure (Ir N)⟩
def aax:Holds 139 (aho N):=gP N f139 .leaf nl
def F59:(V Nat)×cY×(Z jT)->Hp->V ((dw×Int)×Hp):=λ(d,a,c) h=>bif a.kind==1 then(KI N a.int).bind λe=>O ((e,0),h)else bif a.kind==2 then(KJ N a.text).bind λf=>O ((f,0),h)else bif a.kind==3 then(kc N W).bind λg=>O ((g,0),h)else bif a.kind==4 then(kc N F).bind λi=>O ((i,0),h)else bif a.kind==5 then d.bind λj=>(h.nY[j]?).bind λk=>(Ir N k.self).bind λl=>O ((l,0),h)else bif a.kind==6 then(Ir N 0).bind λm=>O ((m,0),h)else aG (λ(_:ab×ab)=>O ((dw.mk 0 0 [] F 0 [],91),h)) λn=>aQ (λo((b,_):Int×ab)=>bif 0<=b then(ax c b).bind λp=>bif p.name==a.text then(ax c b).bind λq=>(Ir N q.node).bind λr=>O ((r,0),h)else o (Wk.wrap (b-1),())else n ((),())) N (Wk.wrap ((c.length:Int)-1),())
abbrev K59:bZ U:=⟨[jE,cU,dh],[.v bg,.v .I],Y,.st (F59 N)⟩
def G59:Holds 59 (K59 N):=gS N f59 (.q (.q (.seq (O ⟨F,[6],[],[6],[]⟩) (.B ⟨F,[2,4,6],[(8,.val .I)],[4,6],[]⟩ .leaf) .leaf))) (cn (Xm N) (cn (Xn N) (cn (Ui N) (cn (aax N) nl))))
abbrev KK(rec:(V Nat)×Int×(Z jT)->Hp->V ((dw×Int)×Hp)):bZ U:=⟨[jE,.I,dh],[.v bg,.v .I],Y,.st rec⟩
def Qx(N:Nat)(rec:(V Nat)×Int×(Z jT)->Hp->V ((dw×Int)×Hp)):(V Nat)×Int×(Z jT)->Hp->V ((Int×Int)×Hp):=λ(b,d,e) h=>(rec (b,d,e) h).bind λa=>bif !(a.1.2==0)then O ((0,a.1.2),a.2)else bif !(a.1.1.kind==4)then O ((0,90),a.2)else b.bind λi2=>(a.2.nY[i2]?).bind λf=>(Nc N (f.m,a.1.1.node)).bind λc=>bif c<0 then O ((0,102),a.2)else O ((c,0),a.2)
abbrev acr(N:Nat)(rec:(V Nat)×Int×(Z jT)->Hp->V ((dw×Int)×Hp)):bZ U:=⟨[jE,.I,dh],[.v .I,.v .I],Y,.st (Qx N rec)⟩
def acs(N:Nat)(rec:(V Nat)×Int×(Z jT)->Hp->V ((dw×Int)×Hp))(E:cd)(a:oN E)(b:eb PP E TT (BB.lA 0 []) 25 (KK rec)):eb PP E TT (BB.lA 0 []) 140 (acr N rec):=mJ SS a.ro f140 (acr N rec) N [] .leaf (.cons (Xi N E a) (.cons b .nil)) (Qx N rec) ap ap ap λ_ _=>ap
def Xo(N:Nat):Z Int->V dw:=λa=>O (dw.mk 5 0 [] F 0 a)
abbrev ahp:bZ U:=⟨[ec],[.v bg],Y,.pure (Xo N)⟩
def acu:Holds 141 (ahp N):=gP N f141 .leaf nl
def aay:gB×Int×bP->V (Z Int):=λ(a,g,h)=>(Nc N (a,g)).bind λi=>(ax a.aj i).bind λd=>aG (λ((j,_):(Z Int)×ab)=>O j) λk=>aQ (λl(((b,c),_):((Z Int)×Int)×ab)=>bif c<d.aD.length then aG (λ((m,_):(Z Int)×ab)=>l ((m,Wk.wrap (c+1)),())) λe=>(ax d.aD c).bind λn=>(Nc N (a,n)).bind λo=>(ax a.aj o).bind λp=>bif p.role==h then(ax d.aD c).bind λf=>(dv (cF 8 (b.length+[f].length) 140737488355328)).bind λ_=>e ((b++[f]),())else e (b,())else k (b,())) N (([],0),())
abbrev ahq:bZ U:=⟨[cb,.I,.str],[.bR .I 3],Y,.pure (aay N)⟩
def ahr:Holds 209 (ahq N):=gP N f209 (.q (.q (.q (.seq (O ⟨F,[],[(7,.bR 7 .I 3)],[],[]⟩) (.B ⟨F,[2,3,8],[(7,.bR 7 .I 3),(9,.val .I)],[3],[]⟩ (.q (.seq (O ⟨F,[2,3,8,9],[(7,.bR 7 .I 3)],[3],[]⟩) .leaf .leaf))) .leaf)))) (cn (Xi N) nl)
def Xq:gB×Int×bP->V (Z Int):=λ(a,b,c)=>(GA N a).bind λd=>bif !d then O []else(Nc N (a,b)).bind λe=>bif e<0 then O []else(aay N (a,b,c)).bind λf=>O f
abbrev ahs:bZ U:=⟨[cb,.I,.str],[.bR .I 3],Y,.pure (Xq N)⟩
def aht:Holds 142 (ahs N):=gP N f142 .leaf (cn (G22 N) (cn (Xi N) (cn (ahr N) nl)))
def Uj:(Z dc)×bP×bP->V aa:=λ(e,b,c)=>(Nb N (e,b)).bind λd=>aG (λ(_:ab×ab)=>O (b==c)) λf=>aQ (λg((a,_):Int×ab)=>bif a<d.length then(ax d a).bind λh=>bif h.name==c then O W else g (Wk.wrap (a+1),())else f ((),())) N (0,())
abbrev ahu:bZ U:=⟨[aY,.str,.str],[.v .bool],Y,.pure (Uj N)⟩
def ahv:Holds 143 (ahu N):=gP N f143 (.q (.q (.seq (O ⟨F,[1,2],[],[],[]⟩) (.B ⟨F,[1,2,7],[(8,.val .I)],[7],[]⟩ .leaf) .leaf))) (cn (aaw N) nl)
def Xr:gB×Int->V (Z Int):=λ(f,g)=>aG (λ((k,_):(Z Int)×ab)=>O k) λl=>aQ (λm(((b,a),_):((Z Int)×(Z Int))×ab)=>bif 0<(a.length:Int)then(ax a (Wk.wrap ((a.length:Int)-1))).bind λc=>(dv (decide (0<=Wk.wrap ((a.length:Int)-1))&&decide ((Wk.wrap ((a.length:Int)-1)).toNat<=a.length))).bind λ_=>aG (λ((n,_):(Z Int)×ab)=>(Nc N (f,c)).bind λo=>(ax f.aj o).bind λh=>aQ (λp(((d,e),_):((Z Int)×Int)×ab)=>bif 0<=e then(ax h.aD e).bind λi=>(dv (cF 8 (d.length+[i].length) 140737488355328)).bind λ_=>p ((d++[i],Wk.wrap (e-1)),())else m ((n,d),())) N ((a.take ((Wk.wrap ((a.length:Int)-1)).toNat),Wk.wrap ((h.aD.length:Int)-1)),())) λj=>bif !(c==g)then(dv (cF 8 (b.length+[c].length) 140737488355328)).bind λ_=>j ((b++[c]),())else j (b,())else l (b,())) N (([],[g]),())
abbrev ahw:bZ U:=⟨[cb,.I],[.bR .I 3],Y,.pure (Xr N)⟩
def ahx:Holds 210 (ahw N):=gP N f210 (.q (.q (.q (.seq (O ⟨F,[],[(5,.bR 5 .I 3)],[],[]⟩) (.block (.loop ⟨F,[1,2],[(5,.bR 5 .I 3),(6,.bR 6 .I 3)],[2],[]⟩ (.q (.block (.q (.q (.seq (O ⟨F,[1,2,6,7],[(5,.bR 5 .I 3)],[2,6],[]⟩) .leaf (.q (.B ⟨F,[1,2,5,8],[(6,.bR 6 .I 3),(9,.val .I)],[2,5],[]⟩ .leaf))))))))) .leaf)))) (cn (Xi N) nl)
def Xs:gB×Int->V (Z Int):=λ(a,b)=>(GA N a).bind λc=>bif !c then O []else(Nc N (a,b)).bind λd=>bif d<0 then O []else(Xr N (a,b)).bind λe=>O e
abbrev ahy:bZ U:=⟨[cb,.I],[.bR .I 3],Y,.pure (Xs N)⟩
def ahz:Holds 144 (ahy N):=gP N f144 .leaf (cn (G22 N) (cn (Xi N) (cn (ahx N) nl)))
def F60(N:Nat)(rec:(V Nat)×Int×(Z jT)->Hp->V ((dw×Int)×Hp)):(V Nat)×cY×(Z jT)->Hp->V ((dw×Int)×Hp):=λ(d,b,p) h=>(ax b.aD 0).bind λq=>(Qx N rec (d,q,p) h).bind λa=>bif !(a.1.2==0)then O ((dw.mk 0 0 [] F 0 [],a.1.2),a.2)else d.bind λr=>(a.2.nY[r]?).bind λs=>(ax s.m.aj a.1.1).bind λc=>bif b.kind==8 then aG (λ(_:ab×ab)=>(KJ N []).bind λt=>O ((t,0),a.2)) λu=>aQ (λv((g,_):Int×ab)=>bif g<c.bd.length then(ax c.bd g).bind λw=>bif w.name==b.text then(ax c.bd g).bind λx=>(KJ N x.value).bind λy=>O ((y,0),a.2)else v (Wk.wrap (g+1),())else u ((),())) N (0,())else bif b.kind==9 then d.bind λi32=>(a.2.nY[i32]?).bind λz=>(Xq N (z.m,c.iD,b.text)).bind λA=>(Xo N A).bind λB=>O ((B,0),a.2)else bif b.kind==10 then aG (λ(_:ab×ab)=>(Ir N 0).bind λC=>O ((C,0),a.2)) λD=>aQ (λl((f,_):Int×ab)=>bif f<c.bK.length then(ax c.bK f).bind λE=>bif E.role==b.text then d.bind λG=>(a.2.nY[G]?).bind λH=>(ax c.bK f).bind λI=>(Nc N (H.m,I.target)).bind λJ=>bif 0<=J then(ax c.bK f).bind λK=>(Ir N K.target).bind λL=>O ((L,0),a.2)else l (Wk.wrap (f+1),())else l (Wk.wrap (f+1),())else D ((),())) N (0,())else bif b.kind==11 then(Ir N c.cu).bind λP=>O ((P,0),a.2)else bif b.kind==12 then d.bind λQ=>(a.2.nY[Q]?).bind λR=>(Uj N (R.ls,c.au,b.text)).bind λS=>(kc N S).bind λT=>O ((T,0),a.2)else d.bind λU=>(a.2.nY[U]?).bind λX=>(Xs N (X.m,c.iD)).bind λk=>aG (λ((b0,c0):(Z Int)×Hp)=>(Xo N b0).bind λd0=>O ((d0,0),c0)) λe0=>aQ (λf0(((i,j),m):((Z Int)×Int)×Hp)=>bif j<k.length then aG (λ((g0,h0):(Z Int)×Hp)=>f0 ((g0,Wk.wrap (j+1)),h0)) λn=>(GB N d m).bind λe=>bif !e.1 then O ((dw.mk 0 0 [] F 0 [],100),e.2)else d.bind λi0=>(e.2.nY[i0]?).bind λj0=>d.bind λk0=>(e.2.nY[k0]?).bind λl0=>d.bind λm0=>(e.2.nY[m0]?).bind λn0=>(ax k j).bind λo0=>(Nc N (n0.m,o0)).bind λp0=>(ax l0.m.aj p0).bind λq0=>(Uj N (j0.ls,q0.au,b.text)).bind λr0=>bif r0 then(ax k j).bind λo=>(dv (cF 8 (i.length+[o].length) 140737488355328)).bind λ_=>n ((i++[o]),e.2)else n (i,e.2)else e0 (i,m)) N (([],0),a.2)
abbrev K60(N:Nat)(rec:(V Nat)×Int×(Z jT)->Hp->V ((dw×Int)×Hp)):bZ U:=⟨[jE,cU,dh],[.v bg,.v .I],Y,.st (F60 N rec)⟩
def G60(N:Nat)(rec:(V Nat)×Int×(Z jT)->Hp->V ((dw×Int)×Hp))(E:cd)(a:oN E)(b:eb PP E TT (BB.lA 0 []) 25 (KK rec)):eb PP E TT (BB.lA 0 []) 60 (K60 N rec):=mJ SS a.ro f60 (K60 N rec) N [] (.q (.q (.q (.q (.seq Y (.q (.block (.q (.cond (.seq (O ⟨F,[6],[],[6],[]⟩) (.B ⟨F,[4,6,10],[(11,.val .I)],[4,6,10],[]⟩ .leaf) .leaf) (.q (.cond .leaf (.q (.cond (.seq (O ⟨F,[6],[],[6],[]⟩) (.B ⟨F,[0,4,6,10],[(12,.val .I)],[4,6,10],[]⟩ .leaf) .leaf) .leaf)))))))) (.q (.q (.seq (O ⟨W,[6],[(13,.bR 13 .I 3)],[6],[]⟩) (.B ⟨W,[0,4,6,14],[(13,.bR 13 .I 3),(15,.val .I)],[4,6,141],[]⟩ (.q (.seq (O ⟨W,[0,4,6,14,15],[(13,.bR 13 .I 3)],[4,6,141],[]⟩) .leaf .leaf))) .leaf)))))))) (.cons (Xi N E a) (.cons (G58 N E a) (.cons (Xn N E a) (.cons (Ui N E a) (.cons (aax N E a) (.cons (acs N rec E a b) (.cons (acu N E a) (.cons (aht N E a) (.cons (ahv N E a) (.cons (ahz N E a) .nil)))))))))) (F60 N rec) ap ap ap λ_ _=>ap
def Uk:Int->V bP:=λb=>bif b==0 then O [48]else aG (λ(((g,d),_):(Int×bP)×ab)=>aG (λ((e,_):bP×ab)=>(dv (decide (d.length+e.length<=maxLen))).bind λ_=>O (d++e)) λh=>aQ (λi(((a,c),_):(Int×bP)×ab)=>bif 0<a then(dv (decide (10≠0))).bind λ_=>(dv (decide (10≠0))).bind λ_=>(dv (decide (0<=a.tmod 10)&&(decide (0<=IntKind.u64.wrap ((a.tmod 10)+1))&&(decide ((a.tmod 10).toNat<=(IntKind.u64.wrap ((a.tmod 10)+1)).toNat)&&decide ((IntKind.u64.wrap ((a.tmod 10)+1)).toNat<=[48,49,50,51,52,53,54,55,56,57].length))))).bind λ_=>(dv (decide (((([48,49,50,51,52,53,54,55,56,57]:bP).take ((IntKind.u64.wrap ((a.tmod 10)+1)).toNat)).drop ((a.tmod 10).toNat)).length+c.length<=maxLen))).bind λ_=>(dv (decide (10≠0))).bind λ_=>i ((IntKind.u64.wrap (a.tdiv 10),((([48,49,50,51,52,53,54,55,56,57]:bP).take ((IntKind.u64.wrap ((a.tmod 10)+1)).toNat)).drop ((a.tmod 10).toNat))++c),())else h (c,())) N ((g,[]),())) λf=>bif b<0 then f ((IntKind.u64.wrap ((IntKind.u64.wrap (Wk.wrap (0-(Wk.wrap (b+1)))))+1),[45]),())else f ((IntKind.u64.wrap b,[]),())
abbrev ahA:bZ U:=⟨[.I],[.v .str],Y,.pure (Uk N)⟩
def ahB:Holds 145 (ahA N):=gP N f145 (.q (.q (.q (.q (.seq (O ⟨F,[],[(3,.val ir),(4,.val .str)],[],[]⟩) .leaf (.q (.seq (O ⟨F,[4],[(5,.val .str)],[],[]⟩) (.block (.w [4] [(3,.val ir),(5,.val .str)] .leaf)) .leaf))))))) nl
def Ul:bP->V (Int×Int):=λa=>bif 0<(a.length:Int)then(ax a 0).bind λc=>aG (λ(((b,j),_):(bP×Int)×ab)=>bif (b.length:Int)==0 then O (0,2)else bif 19<(b.length:Int)then O (0,2)else(ax b 0).bind λr=>bif (r.toNat:Int)==48 then bif (c.toNat:Int)==45 then O (0,2)else bif 1<(b.length:Int)then O (0,2)else aG (λ((h,_):Int×ab)=>bif j<h then O (0,2)else bif (c.toNat:Int)==45 then O (Wk.wrap ((Wk.wrap (0-(Wk.wrap (IntKind.u64.wrap (h-1)))))-1),0)else O (Wk.wrap h,0)) λs=>aQ (λt(((k,d),_):(Int×Int)×ab)=>bif d<b.length then(ax b d).bind λu=>(yF N ((u.toNat:Int),[48,49,50,51,52,53,54,55,56,57])).bind λv=>bif !v then O (0,2)else(ax b d).bind λw=>t ((IntKind.u64.wrap ((IntKind.u64.wrap (10*k))+(IntKind.u64.wrap (IntKind.u8.wrap ((w.toNat:Int)-48)))),Wk.wrap (d+1)),())else s (k,())) N ((0,0),())else aG (λ((i,_):Int×ab)=>bif j<i then O (0,2)else bif (c.toNat:Int)==45 then O (Wk.wrap ((Wk.wrap (0-(Wk.wrap (IntKind.u64.wrap (i-1)))))-1),0)else O (Wk.wrap i,0)) λx=>aQ (λy(((l,e),_):(Int×Int)×ab)=>bif e<b.length then(ax b e).bind λz=>(yF N ((z.toNat:Int),[48,49,50,51,52,53,54,55,56,57])).bind λA=>bif !A then O (0,2)else(ax b e).bind λB=>y ((IntKind.u64.wrap ((IntKind.u64.wrap (10*l))+(IntKind.u64.wrap (IntKind.u8.wrap ((B.toNat:Int)-48)))),Wk.wrap (e+1)),())else x (l,())) N ((0,0),())) λm=>bif (c.toNat:Int)==45 then(dv (decide (0<=1)&&decide (1<=a.length))).bind λ_=>m ((a.drop 1,9223372036854775808),())else m ((a,9223372036854775807),())else bif (a.length:Int)==0 then O (0,2)else bif 19<(a.length:Int)then O (0,2)else(ax a 0).bind λC=>bif (C.toNat:Int)==48 then bif 1<(a.length:Int)then O (0,2)else aG (λ((n,_):Int×ab)=>bif 9223372036854775807<n then O (0,2)else O (Wk.wrap n,0)) λD=>aQ (λE(((o,f),_):(Int×Int)×ab)=>bif f<a.length then(ax a f).bind λG=>(yF N ((G.toNat:Int),[48,49,50,51,52,53,54,55,56,57])).bind λH=>bif !H then O (0,2)else(ax a f).bind λI=>E ((IntKind.u64.wrap ((IntKind.u64.wrap (10*o))+(IntKind.u64.wrap (IntKind.u8.wrap ((I.toNat:Int)-48)))),Wk.wrap (f+1)),())else D (o,())) N ((0,0),())else aG (λ((p,_):Int×ab)=>bif 9223372036854775807<p then O (0,2)else O (Wk.wrap p,0)) λJ=>aQ (λK(((q,g),_):(Int×Int)×ab)=>bif g<a.length then(ax a g).bind λL=>(yF N ((L.toNat:Int),[48,49,50,51,52,53,54,55,56,57])).bind λP=>bif !P then O (0,2)else(ax a g).bind λQ=>K ((IntKind.u64.wrap ((IntKind.u64.wrap (10*q))+(IntKind.u64.wrap (IntKind.u8.wrap ((Q.toNat:Int)-48)))),Wk.wrap (g+1)),())else J (q,())) N ((0,0),())
abbrev ahC:bZ U:=⟨[.str],[.v .I,.v .I],Y,.pure (Ul N)⟩
def ahD:Holds 146 (ahC N):=gP N f146 (.q (.q (.q (.q (.seq (O ⟨F,[5],[(4,.val .str),(6,.val ir)],[],[]⟩) .leaf (.q (.q (.seq (O ⟨F,[5,6],[(7,.val ir)],[],[]⟩) (.W [4,5,6] [(7,.val ir),(8,.val .I)]) .leaf)))))))) (cn (aco N) nl)
def F61(N:Nat)(rec:(V Nat)×Int×(Z jT)->Hp->V ((dw×Int)×Hp)):(V Nat)×cY×(Z jT)->Hp->V ((dw×Int)×Hp):=λ(d,b,f) h=>aG (λ((n,_):aa×ab)=>bif n then(ax b.aD 0).bind λo=>(Qx N rec (d,o,f) h).bind λc=>bif !(c.1.2==0)then O ((dw.mk 0 0 [] F 0 [],c.1.2),c.2)else bif b.kind==17 then d.bind λp=>(c.2.nY[p]?).bind λq=>(ax q.m.aj c.1.1).bind λr=>(KJ N r.au).bind λs=>O ((s,0),c.2)else d.bind λt=>(c.2.nY[t]?).bind λu=>(ax u.m.aj c.1.1).bind λv=>(KI N v.iD).bind λw=>O ((w,0),c.2)else(ax b.aD 0).bind λx=>(rec (d,x,f) h).bind λa=>bif !(a.1.2==0)then O ((dw.mk 0 0 [] F 0 [],a.1.2),a.2)else aG (λ((y,_):aa×ab)=>bif y then(KI N (a.1.1.bk.length:Int)).bind λz=>O ((z,0),a.2)else aG (λ((A,_):aa×ab)=>bif A then(ax a.1.1.bk 0).bind λB=>(Ir N B).bind λC=>O ((C,0),a.2)else aG (λ((D,_):aa×ab)=>bif D then(Ir N 0).bind λE=>O ((E,0),a.2)else aG (λ((G,_):aa×ab)=>bif G then(Uk N a.1.1.int).bind λH=>(KJ N H).bind λI=>O ((I,0),a.2)else aG (λ((J,_):aa×ab)=>bif J then(Ul N a.1.1.text).bind λg=>bif !(g.2==0)then O ((dw.mk 0 0 [] F 0 [],103),a.2)else(KI N g.1).bind λK=>O ((K,0),a.2)else O ((dw.mk 0 0 [] F 0 [],90),a.2)) λi=>bif b.kind==19 then i ((a.1.1.kind==2),())else i (F,())) λj=>bif b.kind==16 then j ((a.1.1.kind==1),())else j (F,())) λk=>bif b.kind==15 then k ((a.1.1.kind==5),())else k (F,())) λe=>bif b.kind==15 then bif a.1.1.kind==5 then e ((decide (0<(a.1.1.bk.length:Int))),())else e (F,())else e (F,())) λl=>bif b.kind==14 then l ((a.1.1.kind==5),())else l (F,())) λm=>bif b.kind==17 then m (W,())else m ((b.kind==18),())
abbrev K61(N:Nat)(rec:(V Nat)×Int×(Z jT)->Hp->V ((dw×Int)×Hp)):bZ U:=⟨[jE,cU,dh],[.v bg,.v .I],Y,.st (F61 N rec)⟩
def G61(N:Nat)(rec:(V Nat)×Int×(Z jT)->Hp->V ((dw×Int)×Hp))(E:cd)(a:oN E)(b:eb PP E TT (BB.lA 0 []) 25 (KK rec)):eb PP E TT (BB.lA 0 []) 61 (K61 N rec):=mJ SS a.ro f61 (K61 N rec) N [] (.q (.seq Y (.seq (O ⟨F,[0,2,4,6],[(21,.val .bool)],[4,6],[]⟩) .leaf .leaf) (.q (.q (.seq Y (.block (.seq (O ⟨F,[4,6,10],[(73,.val .bool)],[4,6,10],[]⟩) .leaf (.cond .leaf (.seq (O ⟨F,[4,6,10],[(86,.val .bool)],[4,6,10],[]⟩) .leaf (.cond .leaf (.seq (O ⟨F,[4,6,10],[(106,.val .bool)],[4,6,10],[]⟩) .leaf (.cond .leaf (.seq (O ⟨F,[4,6,10],[(116,.val .bool)],[4,6,10],[]⟩) .leaf (.cond .leaf (.seq (O ⟨F,[6,10],[(129,.val .bool)],[6,10],[]⟩) .leaf .leaf)))))))))) .leaf))))) (.cons b (.cons (Xm N E a) (.cons (Xn N E a) (.cons (aax N E a) (.cons (acs N rec E a b) (.cons (ahB N E a) (.cons (ahD N E a) .nil))))))) (F61 N rec) ap ap ap λ_ _=>ap
def GD:(Z Int)×(Z Int)->V aa:=λ(b,c)=>bif !((b.length:Int)==(c.length:Int))then O F else aG (λ(_:ab×ab)=>O W) λd=>aQ (λe((a,_):Int×ab)=>bif a<b.length then(ax b a).bind λf=>(ax c a).bind λg=>bif !(f==g)then O F else e (Wk.wrap (a+1),())else d ((),())) N (0,())
abbrev K26:bZ U:=⟨[ec,ec],[.v .bool],Y,.pure (GD N)⟩
def G26:Holds 26 (K26 N):=gP N f26 (.q (.q (.J (.W [0,1] [(5,.val .I)]) .leaf))) nl
def O7:dw×dw->V aa:=λ(a,b)=>bif a.kind==b.kind then bif a.int==b.int then bif a.text==b.text then bif (a.bool==b.bool)then bif a.node==b.node then(GD N (a.bk,b.bk)).bind λc=>O c else O F else O F else O F else O F else O F
abbrev K10:bZ U:=⟨[bg,bg],[.v .bool],Y,.pure (O7 N)⟩
def G10:Holds 10 (K10 N):=gP N f10 .leaf (cn (G26 N) nl)
def KL(N:Nat):Int×Int×Int->V (Int×aa):=λ(c,b,a)=>bif c==20 then bif !((decide (0<=b))==(decide (0<=a)))then O (Wk.wrap (b+a),W)else O (Wk.wrap (b+a),((decide (0<=Wk.wrap (b+a)))==(decide (0<=b))))else bif c==21 then bif ((decide (0<=b))==(decide (0<=a)))then O (Wk.wrap (b-a),W)else O (Wk.wrap (b-a),((decide (0<=Wk.wrap (b-a)))==(decide (0<=b))))else bif b==0 then O (0,W)else bif a==0 then O (0,W)else bif b==(-9223372036854775808)then bif b==1 then O ((-9223372036854775808),W)else O ((-9223372036854775808),a==1)else bif a==(-9223372036854775808)then bif b==1 then O ((-9223372036854775808),W)else O ((-9223372036854775808),a==1)else aG (λ((e,_):Int×ab)=>(dv (decide (IntKind.u64.wrap (bif a<Wk.wrap (0-a)then Wk.wrap (0-a)else a)≠0))).bind λ_=>O (Wk.wrap (b*a),decide (IntKind.u64.wrap (bif b<Wk.wrap (0-b)then Wk.wrap (0-b)else b)<=IntKind.u64.wrap (e.tdiv (IntKind.u64.wrap (bif a<Wk.wrap (0-a)then Wk.wrap (0-a)else a)))))) λd=>bif !((decide (b<0))==(decide (a<0)))then d (9223372036854775808,())else d (9223372036854775807,())
abbrev ahE:bZ U:=⟨[.I,.I,.I],[.v .I,.v .bool],Y,.pure (KL N)⟩
def acv:Holds 147 (ahE N):=gP N f147 (.q (.q (.q (.q (.q (.q (.q (.seq (O ⟨F,[1,2,11,12],[(13,.val ir)],[],[]⟩) .leaf .leaf)))))))) nl
def tX:Int×dw×dw->V (dw×Int):=λ(c,a,b)=>aG (λ(((l,m),_):(aa×aa)×ab)=>aG (λ((u,_):aa×ab)=>bif u then bif 4096<Wk.wrap ((a.text.length:Int)+(b.text.length:Int))then O (dw.mk 0 0 [] F 0 [],3)else(dv (decide (a.text.length+b.text.length<=maxLen))).bind λ_=>(KJ N (a.text++b.text)).bind λv=>O (v,0)else aG (λ((w,_):aa×ab)=>bif w then(KL N (c,a.int,b.int)).bind λs=>bif !s.2 then O (dw.mk 0 0 [] F 0 [],101)else(KI N s.1).bind λx=>O (x,0)else aG (λ((y,_):aa×ab)=>bif y then(O7 N (a,b)).bind λz=>(kc N (z==(c==23))).bind λA=>O (A,0)else aG (λ((B,_):aa×ab)=>bif B then aG (λ(((C,D,E,G,H,I,J),_):(Int×Int×Int×bP×aa×Int×(Z Int))×ab)=>O (dw.mk D E G H I J,C)) λn=>bif a.int<b.int then(kc N W).bind λd=>n ((0,d.kind,d.int,d.text,d.bool,d.node,d.bk),())else bif c==26 then(kc N (a.int==b.int)).bind λe=>n ((0,e.kind,e.int,e.text,e.bool,e.node,e.bk),())else(kc N F).bind λf=>n ((0,f.kind,f.int,f.text,f.bool,f.node,f.bk),())else aG (λ((K,_):aa×ab)=>bif K then aG (λ(((L,P,Q,R,S,T,U),_):(Int×Int×Int×bP×aa×Int×(Z Int))×ab)=>O (dw.mk P Q R S T U,L)) λo=>bif Op.bytesLess a.text b.text then(kc N W).bind λg=>o ((0,g.kind,g.int,g.text,g.bool,g.node,g.bk),())else bif c==26 then(kc N (a.text==b.text)).bind λh=>o ((0,h.kind,h.int,h.text,h.bool,h.node,h.bk),())else(kc N F).bind λi=>o ((0,i.kind,i.int,i.text,i.bool,i.node,i.bk),())else O (dw.mk 0 0 [] F 0 [],90)) λp=>bif c==25 then p (m,())else bif c==26 then p (m,())else p (F,())) λq=>bif c==25 then q (l,())else bif c==26 then q (l,())else q (F,())) λj=>bif c==23 then bif a.kind==b.kind then j ((!(a.kind==5)),())else j (F,())else bif c==24 then bif a.kind==b.kind then j ((!(a.kind==5)),())else j (F,())else j (F,())) λr=>bif 20<=c then bif c<=22 then r (l,())else r (F,())else r (F,())) λt=>bif c==20 then t (m,())else t (F,())) λk=>bif a.kind==1 then bif a.kind==2 then k ((b.kind==1,b.kind==2),())else k ((b.kind==1,F),())else bif a.kind==2 then k ((F,b.kind==2),())else k ((F,F),())
abbrev K62:bZ U:=⟨[.I,bg,bg],[.v bg,.v .I],Y,.pure (tX N)⟩
set_option maxHeartbeats 1000000 in
theorem G62:Holds 62 (K62 N):=gP N f62 (.q (.seq (O ⟨F,[0,4,5,6],[(8,.val .bool),(9,.val .bool)],[4,5,6],[]⟩) .leaf (.seq Y (.block (.seq (O ⟨F,[0,4,5,6,8,9],[(28,.val .bool)],[4,5,6],[]⟩) .leaf (.cond .leaf (.seq (O ⟨F,[0,4,5,6,8,9],[(49,.val .bool)],[4,5,6],[]⟩) .leaf (.cond .leaf (.seq (O ⟨F,[0,4,5,6,8,9],[(73,.val .bool)],[4,5,6],[]⟩) .leaf (.cond .leaf (.seq (O ⟨F,[0,4,5,6,9],[(99,.val .bool)],[4,5,6],[]⟩) .leaf (.cond (.seq (O ⟨F,[6],[(7,.val .I)],[],[(6,.cells bg [.val .I,.val .I,.val .str,.val .bool,.val .I,.val ec])]⟩) .leaf .leaf) (.seq (O ⟨F,[0,4,5,6],[(126,.val .bool)],[4,5,6],[]⟩) .leaf (.cond (.seq (O ⟨F,[6],[(7,.val .I)],[],[(6,.cells bg [.val .I,.val .I,.val .str,.val .bool,.val .I,.val ec])]⟩) .leaf .leaf) .leaf))))))))))) .leaf))) (cn (G10 N) (cn (Xm N) (cn (Xn N) (cn (Ui N) (cn (acv N) nl)))))
def Ng(N:Nat)(rec:(V Nat)×Int×(Z jT)->Hp->V ((dw×Int)×Hp)):(V Nat)×Int×(Z jT)->Hp->V ((aa×Int)×Hp):=λ(b,c,d) h=>(rec (b,c,d) h).bind λa=>bif !(a.1.2==0)then O ((F,a.1.2),a.2)else bif !(a.1.1.kind==3)then O ((F,90),a.2)else O ((a.1.1.bool,0),a.2)
abbrev acw(N:Nat)(rec:(V Nat)×Int×(Z jT)->Hp->V ((dw×Int)×Hp)):bZ U:=⟨[jE,.I,dh],[.v .bool,.v .I],Y,.st (Ng N rec)⟩
def ahF(N:Nat)(rec:(V Nat)×Int×(Z jT)->Hp->V ((dw×Int)×Hp))(E:cd)(a:oN E)(b:eb PP E TT (BB.lA 0 []) 25 (KK rec)):eb PP E TT (BB.lA 0 []) 148 (acw N rec):=mJ SS a.ro f148 (acw N rec) N [] .leaf (.cons b .nil) (Ng N rec) ap ap ap λ_ _=>ap
def F63(N:Nat)(rec:(V Nat)×Int×(Z jT)->Hp->V ((dw×Int)×Hp)):(V Nat)×cY×(Z jT)->Hp->V ((dw×Int)×Hp):=λ(c,b,d) h=>(ax b.aD 0).bind λk=>(Ng N rec (c,k,d) h).bind λa=>bif !(a.1.2==0)then O ((dw.mk 0 0 [] F 0 [],a.1.2),a.2)else bif b.kind==29 then(kc N (!a.1.1)).bind λl=>O ((l,0),a.2)else bif b.kind==30 then bif a.1.1 then(ax b.aD 1).bind λm=>(rec (c,m,d) a.2).bind λg=>O ((g.1.1,g.1.2),g.2)else bif b.kind==30 then(ax b.aD 2).bind λn=>(rec (c,n,d) a.2).bind λi=>O ((i.1.1,i.1.2),i.2)else bif (a.1.1==(b.kind==28))then(kc N a.1.1).bind λo=>O ((o,0),a.2)else(ax b.aD 1).bind λp=>(Ng N rec (c,p,d) a.2).bind λe=>bif !(e.1.2==0)then O ((dw.mk 0 0 [] F 0 [],e.1.2),e.2)else(kc N e.1.1).bind λq=>O ((q,0),e.2)else bif b.kind==30 then(ax b.aD 2).bind λr=>(rec (c,r,d) a.2).bind λj=>O ((j.1.1,j.1.2),j.2)else bif (a.1.1==(b.kind==28))then(kc N a.1.1).bind λs=>O ((s,0),a.2)else(ax b.aD 1).bind λt=>(Ng N rec (c,t,d) a.2).bind λf=>bif !(f.1.2==0)then O ((dw.mk 0 0 [] F 0 [],f.1.2),f.2)else(kc N f.1.1).bind λu=>O ((u,0),f.2)
abbrev K63(N:Nat)(rec:(V Nat)×Int×(Z jT)->Hp->V ((dw×Int)×Hp)):bZ U:=⟨[jE,cU,dh],[.v bg,.v .I],Y,.st (F63 N rec)⟩
def G63(N:Nat)(rec:(V Nat)×Int×(Z jT)->Hp->V ((dw×Int)×Hp))(E:cd)(a:oN E)(b:eb PP E TT (BB.lA 0 []) 25 (KK rec)):eb PP E TT (BB.lA 0 []) 63 (K63 N rec):=mJ SS a.ro f63 (K63 N rec) N [] .leaf (.cons b (.cons (Ui N E a) (.cons (ahF N rec E a b) .nil))) (F63 N rec) ap ap ap λ_ _=>ap
def F64(N:Nat)(rec:(V Nat)×Int×(Z jT)->Hp->V ((dw×Int)×Hp)):(V Nat)×cY×(Z jT)->Hp->V ((dw×Int)×Hp):=λ(k,b,f) h=>(ax b.aD 0).bind λu=>(rec (k,u,f) h).bind λc=>bif !(c.1.2==0)then O ((dw.mk 0 0 [] F 0 [],c.1.2),c.2)else bif !(c.1.1.kind==5)then O ((dw.mk 0 0 [] F 0 [],90),c.2)else aG (λ(((v,w),g):((Z Int)×Int)×Hp)=>bif b.kind==31 then(kc N F).bind λx=>O ((x,0),g)else bif b.kind==32 then(kc N W).bind λy=>O ((y,0),g)else bif b.kind==33 then(Xo N v).bind λz=>O ((z,0),g)else(KI N w).bind λA=>O ((A,0),g)) λB=>aQ (λC(((d,i,j),n):((Z Int)×Int×Int)×Hp)=>bif j<c.1.1.bk.length then aG (λ(((D,E),G):((Z Int)×Int)×Hp)=>C ((D,E,Wk.wrap (j+1)),G)) λl=>(GB N k n).bind λm=>bif !m.1 then O ((dw.mk 0 0 [] F 0 [],100),m.2)else(ax b.aD 1).bind λH=>(dv (cF 24 (0+f.length) 140737488355328)).bind λ_=>(ax c.1.1.bk j).bind λo=>(dv (cF 24 ((([]:Z _)++f).length+[jT.mk b.text o].length) 140737488355328)).bind λ_=>(rec (k,H,(([]:Z _)++f)++[jT.mk b.text o]) m.2).bind λa=>bif !(a.1.2==0)then O ((dw.mk 0 0 [] F 0 [],a.1.2),a.2)else aG (λ((I,_):aa×ab)=>bif I then O ((dw.mk 0 0 [] F 0 [],90),a.2)else aG (λ((J,_):aa×ab)=>bif J then(kc N W).bind λK=>O ((K,0),a.2)else aG (λ((L,_):aa×ab)=>bif L then(kc N F).bind λP=>O ((P,0),a.2)else aG (λ((Q,_):aa×ab)=>bif Q then(ax c.1.1.bk j).bind λp=>(dv (cF 8 (d.length+[p].length) 140737488355328)).bind λ_=>l ((d++[p],i),a.2)else bif b.kind==34 then(KL N (20,i,a.1.1.int)).bind λq=>bif !q.2 then O ((dw.mk 0 0 [] F 0 [],101),a.2)else l ((d,q.1),a.2)else l ((d,i),a.2)) λr=>bif b.kind==33 then r (a.1.1.bool,())else r (F,())) λs=>bif b.kind==32 then s ((!a.1.1.bool),())else s (F,())) λt=>bif b.kind==31 then t (a.1.1.bool,())else t (F,())) λe=>bif b.kind==34 then bif !(a.1.1.kind==1)then e (W,())else bif !(b.kind==34)then e ((!(a.1.1.kind==3)),())else e (F,())else bif !(b.kind==34)then e ((!(a.1.1.kind==3)),())else e (F,())else B ((d,i),n)) N (([],0,0),c.2)
abbrev K64(N:Nat)(rec:(V Nat)×Int×(Z jT)->Hp->V ((dw×Int)×Hp)):bZ U:=⟨[jE,cU,dh],[.v bg,.v .I],Y,.st (F64 N rec)⟩
def G64(N:Nat)(rec:(V Nat)×Int×(Z jT)->Hp->V ((dw×Int)×Hp))(E:cd)(a:oN E)(b:eb PP E TT (BB.lA 0 []) 25 (KK rec)):eb PP E TT (BB.lA 0 []) 64 (K64 N rec):=mJ SS a.ro f64 (K64 N rec) N [] (.q (.q (.q (.q (.q (.q (.seq (O ⟨W,[4,6],[(10,.bR 10 .I 3),(11,.val .I)],[4,6],[]⟩) (.B ⟨W,[0,2,4,6,8],[(10,.bR 10 .I 3),(11,.val .I),(12,.val .I)],[4,6,8],[]⟩ (.q (.seq (O ⟨W,[0,2,4,6,8,12],[(10,.bR 10 .I 3),(11,.val .I)],[4,6,8],[]⟩) (.block (.q (.q (.block (.q (.cond .leaf (.seq (O ⟨F,[0,2,4,6,8,10,11,12,13],[(73,.val .bool)],[4,6,8,10,13],[]⟩) .leaf (.cond .leaf (.seq (O ⟨F,[0,2,4,6,8,10,11,12,13],[(93,.val .bool)],[4,6,8,10,13],[]⟩) .leaf (.cond .leaf (.seq (O ⟨F,[0,2,4,6,8,10,11,12,13],[(102,.val .bool)],[4,6,8,10,13],[]⟩) .leaf (.cond .leaf (.seq (O ⟨F,[0,2,4,6,8,10,11,12,13],[(112,.val .bool)],[4,6,8,10,13],[]⟩) .leaf .leaf))))))))))))) .leaf))) .leaf))))))) (.cons b (.cons (G58 N E a) (.cons (Xm N E a) (.cons (Ui N E a) (.cons (acu N E a) (.cons (acv N E a) .nil)))))) (F64 N rec) ap ap ap λ_ _=>ap
def Xt(N:Nat)(rec:(V Nat)×Int×(Z jT)->Hp->V ((dw×Int)×Hp)):(V Nat)×Int×(Z jT)->Hp->V ((dw×Int)×Hp):=λ(b,n,d) h=>(GB N b h).bind λc=>bif !c.1 then O ((dw.mk 0 0 [] F 0 [],100),c.2)else b.bind λi2=>(c.2.nY[i2]?).bind λo=>(ax o.e.aj n).bind λa=>bif a.kind<=7 then(F59 N (b,a,d) c.2).bind λg=>O ((g.1.1,g.1.2),g.2)else bif a.kind<=13 then(F60 N rec (b,a,d) c.2).bind λi=>O ((i.1.1,i.1.2),i.2)else bif a.kind<=19 then(F61 N rec (b,a,d) c.2).bind λj=>O ((j.1.1,j.1.2),j.2)else bif a.kind<=26 then(ax a.aD 0).bind λp=>(rec (b,p,d) c.2).bind λe=>bif !(e.1.2==0)then O ((e.1.1,e.1.2),e.2)else(ax a.aD 1).bind λq=>(rec (b,q,d) e.2).bind λf=>bif !(f.1.2==0)then O ((f.1.1,f.1.2),f.2)else(tX N (a.kind,e.1.1,f.1.1)).bind λm=>O ((m.1,m.2),f.2)else bif a.kind<=30 then(F63 N rec (b,a,d) c.2).bind λk=>O ((k.1.1,k.1.2),k.2)else(F64 N rec (b,a,d) c.2).bind λl=>O ((l.1.1,l.1.2),l.2)
def Aw(N:Nat):Nat->(V Nat)×Int×(Z jT)->Hp->V ((dw×Int)×Hp)
 |0=>λ_ _=>Y|n+1=>Xt N (Aw N n)
def F25:(V Nat)×Int×(Z jT)->Hp->V ((dw×Int)×Hp):=Aw N N
abbrev K25:bZ U:=⟨[jE,.I,dh],[.v bg,.v .I],Y,.st (F25 N)⟩
def acx(N:Nat)(E:cd)(a:oN E):∀n,eb PP E TT (BB.lA 0 []) 25 (KK (Aw N n))
 |0=>Dg ap|n+1=>have b:=acx N E a n
  mJ SS a.ro f25 (KK (Aw N (n+1))) N [] .leaf (.cons b (.cons (G58 N E a) (.cons (G59 N E a) (.cons (G60 N (Aw N n) E a b) (.cons (G61 N (Aw N n) E a b) (.cons (G62 N E a) (.cons (G63 N (Aw N n) E a b) (.cons (G64 N (Aw N n) E a b) .nil)))))))) (Aw N (n+1)) ap ap ap λ_ _=>ap
def G25:Holds 25 (K25 N):=λE a=>acx N E a N
def F9:(Z dc)×gB×oF×Int×Int->Hp->V ((dw×Int×Int)×Hp):=λ(e,d,a2,a3,a) h=>
 (GA N d).bind λg=>
 bif !g then O ((dw.mk 0 0 [] F 0 [],0,29),h)
 else
  (F23 N (oF.mk a2.aj)).bind λf=>
  bif !(f==0)then O ((dw.mk 0 0 [] F 0 [],0,f),h)
  else
   bif a<0 then O ((dw.mk 0 0 [] F 0 [],0,2),h)
   else
    bif 1048576<a then O ((dw.mk 0 0 [] F 0 [],0,2),h)
    else
     bif !(a3==0)then
      (Nc N (d,a3)).bind λi=>
      bif i<0 then O ((dw.mk 0 0 [] F 0 [],0,2),h)
      else
       cw {h with nY:=h.nY++[fv.mk e d (oF.mk a2.aj) a3 a]} λj=>
       (F25 N (O h.nY.length,0,[]) j).bind λb=>
       bif !(b.1.2==0)then O ((dw.mk 0 0 [] F 0 [],0,b.1.2),b.2)
       else
        (O h.nY.length).bind λk=>
        (b.2.nY[k]?).bind λl=>
        O ((b.1.1,Wk.wrap (a-l.left),0),b.2)
     else
      cw {h with nY:=h.nY++[fv.mk e d (oF.mk a2.aj) a3 a]} λm=>
      (F25 N (O h.nY.length,0,[]) m).bind λc=>
      bif !(c.1.2==0)then O ((dw.mk 0 0 [] F 0 [],0,c.1.2),c.2)
      else
       (O h.nY.length).bind λn=>
       (c.2.nY[n]?).bind λo=>
       O ((c.1.1,Wk.wrap (a-o.left),0),c.2)
abbrev K9:bZ U:=⟨[aY,cb,eD,.I,.I],[.v bg,.v .I,.v .I],Y,.st (F9 N)⟩
def G9:Holds 9 (K9 N):=gS N f9 .leaf (cn (G22 N) (cn (G23 N) (cn (Xi N) (cn (G25 N) nl)))) [(49,11)]
end
end Go.Proofs.Mo
namespace Go.Proofs.Mo
open Go Go.Ev Go.X
inductive Va where
 |vi (n:Int)
 |vt (s:X.bP)
 |vb (b:Bool)
 |vn (id:Int)
 |vl (l:List Int)
def Va.v:Va->dw
 |.vi n=>⟨1,n,[],F,0,[]⟩|.vt s=>⟨2,0,s,F,0,[]⟩
 |.vb b=>⟨3,0,[],b,0,[]⟩|.vn i=>⟨4,0,[],F,i,[]⟩
 |.vl l=>⟨5,0,[],F,0,l⟩
def Va.Ok:Va->Prop
 |.vi n=>cG n|.vt s=>s.length<=1048576
 |.vl l=>l.length<=1048576|_=>True
def v0:dw:=⟨0,0,[],F,0,[]⟩
def qh(k x y:Int):Int:=if k=20 then x+y else if k=21 then x-y else x*y
def h8(k:Int)(a b:Va):Except Int Va:=
 if k<=22 then
  match a,b with
  |.vt s,.vt u=>if k=20 then(if 4096<s.length+u.length then .error 3 else .ok (.vt (s++u)))else .error 90|.vi x,.vi y=>if cG (qh k x y)then .ok (.vi (qh k x y))else .error 101
  |_,_=>.error 90
 else if k<=24 then
  match a,b with
  |.vi x,.vi y=>.ok (.vb ((x==y)==(k==23)))|.vt x,.vt y=>.ok (.vb ((x==y)==(k==23)))
  |.vb x,.vb y=>.ok (.vb ((x==y)==(k==23)))|.vn x,.vn y=>.ok (.vb ((x==y)==(k==23)))
  |_,_=>.error 90
 else
  match a,b with
  |.vi x,.vi y=>.ok (.vb (decide (x<y)||(k==26&&x==y)))|.vt x,.vt y=>.ok (.vb (Op.bytesLess x y||(k==26&&x==y)))
  |_,_=>.error 90
section
variable(N:Nat)
theorem gW(b:aa)(e:Int):kb N (b,e)=O (if b=W then .ok ()else .error ⟨e⟩):=by cases b<;>rfl
theorem Yy{x y:Int}(d:cG x)(e:cG y):M7 N (x,y)=O (if cG (x+y)then .ok (x+y)else .error ⟨101⟩):=by
 have f:=d;have g:=e;unfold cG at f g;have h:IntKind.i64.wrap (9223372036854775807-y)=if 0<=y then 9223372036854775807-y else IntKind.i64.wrap (9223372036854775807-y):=by grind [b7]
 unfold M7;simp only[gW,aE];by_cases h0:0<=y
 .rw[b7 M M (x:=9223372036854775807-y)];have c:¬y<0:=M;simp only[h0,c,od,lM,aW,aX];by_cases b:x<=9223372036854775807-y
  .have a:cG (x+y):=by unfold cG;omega
   simp only[b,a,od,aW,cm,eG];rw[b7 a.1 a.2]
  .have a:¬cG (x+y):=by unfold cG;omega
   simp only[b,a,lM,aX,cA,eG];rfl
 .rw[b7 M M (x:=-9223372036854775808-y)];have c:y<0:=M;simp only[h0,c,od,lM,aW,aX];by_cases b:-9223372036854775808-y<=x
  .have a:cG (x+y):=by unfold cG;omega
   simp only[b,a,od,cm,eG];rw[b7 a.1 a.2]
  .have a:¬cG (x+y):=by unfold cG;omega
   simp only[b,a,lM,cA,eG];rfl
theorem Yz{k x y:Int}(g:k=20∨k=21∨k=22)(b:cG x)(d:cG y):∃p,KL N (k,x,y)=O (p,decide (cG (qh k x y)))/\(cG (qh k x y)->p=qh k x y):=by
 have i:=b;have j:=d;unfold cG at i j;rcases g with rfl|rfl|rfl
 .refine ⟨IntKind.i64.wrap (x+y),?_,λh=>b7 h.1 h.2⟩;have e:qh 20 x y=x+y:=rfl;rw[e];unfold KL;have c:((20:Int)==20)=W:=rfl;dsimp only;rw[c,aW];by_cases h:(0<=x↔0<=y)
  .have a:(decide (0<=x)==decide (0<=y))=W:=by grind
   rw[a];simp only[fQ,aX];congr 2
   grind [cG,IntKind.wrap,IntKind.bits,IntKind.signed]
  grind [decide,cG]
 .refine ⟨IntKind.i64.wrap (x-y),?_,λh=>b7 h.1 h.2⟩;have e:qh 21 x y=x-y:=rfl;rw[e];unfold KL;have c:((21:Int)==20)=F:=rfl;have c2:((21:Int)==21)=W:=rfl;dsimp only;rw[c,aX,c2,aW];by_cases h:(0<=x↔0<=y)
  grind [decide,cG]
  .have a:(decide (0<=x)==decide (0<=y))=F:=by grind
   rw[a];simp only[aX];congr 2
   grind [cG,IntKind.wrap,IntKind.bits,IntKind.signed]
 .have e:qh 22 x y=x*y:=rfl;rw[e];unfold KL;have c:((22:Int)==20)=F:=rfl;have c2:((22:Int)==21)=F:=rfl;dsimp only;rw[c,aX,c2,aX];by_cases h0:x=0;simp_all;have b0:(x==0)=F:=by grind
  rw[b0,aX];by_cases l:y=0;simp_all;have m:(y==0)=F:=by grind
  rw[m,aX];by_cases m0:x=-9223372036854775808
  .subst m0;refine⟨-9223372036854775808,?_,λh=>by unfold cG at h;omega⟩;have:cG (-9223372036854775808*y)↔y=1:=by unfold cG;omega
   grind
  have n:(x==-9223372036854775808)=F:=by grind
  rw[n,aX];by_cases f:y=-9223372036854775808
  .subst f;have:cG (x*-9223372036854775808)↔x=1:=by unfold cG;omega
   have c3:((-9223372036854775808:Int)==-9223372036854775808)=W:=rfl;have o:((-9223372036854775808:Int)==1)=F:=rfl;rw[c3,aW,o];refine⟨-9223372036854775808,?_,λh=>by grind⟩
   grind
  have q:(y==-9223372036854775808)=F:=by grind
  rw[q,aX];refine⟨IntKind.i64.wrap (x*y),?_,λh=>b7 h.1 h.2⟩;rw[OW b m0,OW d f];unfold aG;have s:∀Mloc:Int,Mloc=(if(x<0)↔(y<0)then 9223372036854775807 else 9223372036854775808)->((dv (decide ((y.natAbs:Int)≠0))).bind λ_=>O (IntKind.i64.wrap (x*y),decide ((x.natAbs:Int)<=IntKind.u64.wrap (Mloc.tdiv (y.natAbs:Int)))))=O (IntKind.i64.wrap (x*y),decide (cG (x*y))):=λMloc r=>by
   rw[lj (by grind),aE];have t:=Wg b d h0 l r;have a:IntKind.u64.wrap (Mloc.tdiv (y.natAbs:Int))=Mloc.tdiv (y.natAbs:Int):=by
    have:0<=Mloc/\Mloc<=9223372036854775808:=by grind
    refine ni (Int.tdiv_nonneg this.1 M) ?_;have:=Int.tdiv_le_self (y.natAbs:Int) this.1;omega
   simp_all
  by_cases u:(x<0)↔(y<0)
  grind
  grind
end
def Nh(c:bc):aa:=(decide (65<=c.toNat)&&decide (c.toNat<=90))||(decide (97<=c.toNat)&&decide (c.toNat<=122))
def xc(c:bc):aa:=Nh c||((decide (48<=c.toNat)&&decide (c.toNat<=57))||c.toNat==95)
def kM(s:X.bP):aa:=decide (s.length<=32)&&match s with
 |[]=>F|c::r=>Nh c&&r.all xc
def Dw:Z bc:=[65,66,67,68,69,70,71,72,73,74,75,76,77,78,79,80,81,82,83,84,85,86,87,88,89,90,97,98,99,100,101,102,103,104,105,106,107,108,109,110,111,112,113,114,115,116,117,118,119,120,121,122]
def aaz:Z bc:=[65,66,67,68,69,70,71,72,73,74,75,76,77,78,79,80,81,82,83,84,85,86,87,88,89,90,97,98,99,100,101,102,103,104,105,106,107,108,109,110,111,112,113,114,115,116,117,118,119,120,121,122,48,49,50,51,52,53,54,55,56,57,95]
def Dx:Z bc:=[48,49,50,51,52,53,54,55,56,57]
theorem sv{p:bc->aa}(h:∀n:Fin 256,p (UInt8.ofNat n.val)=W)(c:bc):p c=W:=by have:=h ⟨c.toNat,c.toNat_lt⟩;simp_all
theorem Ni(c:bc):Dw.contains c=Nh c:=by
 have:=sv (p:=λc=>Dw.contains c==Nh c) (by decide +kernel) c
 grind
theorem Nj(c:bc):aaz.contains c=xc c:=by
 have:=sv (p:=λc=>aaz.contains c==xc c) (by decide +kernel) c
 grind
theorem Nk(c:bc):Dx.contains c=decide (iW c):=by
 have:=sv (p:=λc=>Dx.contains c==decide (iW c)) (by decide +kernel) c
 grind
theorem O8{c:bc}(h:Nh c=W):xc c=W:=by simp[xc,h]
section
variable{N:Nat}(hN:1073741824<=N)
include hN
theorem Um(c:bc)(l:X.bP)(k:l.length<=1000):T (yF N ((c.toNat:Int),l)) λr=>r=l.contains c:=by
 unfold yF;refine aS (λ_=>l.contains c=F) (λJ f=>?_) λx a=>ad a.symm;refine bl (λs=>0<=s.1/\s.1<=l.length/\c∉l.take s.1.toNat) (λs=>(l.length-s.1).toNat) ⟨aH,aH,aH⟩ (by grind) ?_;rintro rec ⟨p,u⟩ ⟨b,g,h⟩ i;dsimp only at b g h⊢;refine a6 (λd=>aL b d λx a j=>bt (λe=>ad ?_) λe=>i _ ⟨?_,?_,?_⟩ ?_) λd=>f _ ?_
 grind [UInt8.toNat_inj]
 all_goals try(dsimp only;rw[b7 M M])
 grind
 grind
 .rw[(M:(p+1).toNat=p.toNat+1),px,j]
  grind
 grind
 grind [de]
theorem YA(c:bc):M4 N (c.toNat:Int)=O (Nh c):=by grind [M4,Nh,decide]
theorem ahG(s:X.bP)(t:s.length<=1048576):T (sq N s) λr=>r=kM s:=by
 unfold sq;have a:kM s=F->T (O F) λr=>r=kM s:=λh=>ad h.symm;refine a6 (λh=>a ?_) λh0=>a6 (λh=>a ?_) λv=>?_
 .have:s=[]:=oT M;subst this;rfl
 .simp only[kM]
  grind
 cases s with
 |nil=>grind|cons c r=>
  have f:ax (c::r) (0:Int)=O c:=dq (i:=0) aH;rw[f,aE];refine aB (Um hN c Dw b9) λy b=>?_;subst b;rw[Ni];have g:decide ((c::r).length<=32)=W:=by grind
  refine cj (λh=>a (by simp[kM,h])) λj=>aS (λ_=>r.all xc=W) (λJ k=>?_) λx d=>ad ?_
  .refine bl (λs=>1<=s.1/\s.1<=(c::r).length/\∀x∈r.take (s.1.toNat-1),xc x=W) (λs=>((c::r).length-s.1).toNat) ⟨aH,by grind,aH⟩ (by grind) ?_;rintro rec ⟨p,u⟩ ⟨l,m,n⟩ o;dsimp only at l m n⊢;refine a6 (λe=>aL M e λx d w=>aB (Um hN x aaz b9) λy b=>?_) λe=>k _ ?_
   .subst b;rw[Nj];have q:r[p.toNat-1]?=O x:=by grind
    refine cj (λh=>a ?_) λh=>o _ ⟨?_,?_,?_⟩ ?_
    grind [xc,List.all_eq_false,bW,kM]
    all_goals dsimp only;rw[b7 M M]
    grind
    grind
    .rw[(M:(p+1).toNat-1=(p.toNat-1)+1),px,q]
     grind
    grind
   grind [de,di]
  .simp only[kM,g,j,d];rfl
theorem acA(s:X.bP)(z:s.length<=1048576):T (l8 N s) λr=>r=kM s:=by
 unfold l8;have a:kM s=F->T (O F) λr=>r=kM s:=λh=>ad h.symm;refine bt (λh=>a ?_) λh0=>a6 (λh=>a ?_) λA=>?_
 .have:s=[]:=oT M;subst this;rfl
 .simp only[kM]
  grind
 cases s with
 |nil=>grind|cons c r=>
  have j:ax (c::r) (0:Int)=O c:=dq (i:=0) aH;rw[j,aE,YA hN,aE];have k:decide ((c::r).length<=32)=W:=by grind
  refine cj (λh=>a (by simp[kM,h])) λl=>aS (λ_=>r.all xc=W) (λJ m=>?_) λx e=>ad ?_
  .refine bl (λs=>0<=s.1/\s.1<=(c::r).length/\∀x∈(c::r).take s.1.toNat,xc x=W) (λs=>((c::r).length-s.1).toNat) ⟨aH,by grind,aH⟩ (by grind) ?_;rintro rec ⟨p,u⟩ ⟨n,o,t⟩ v;dsimp only at n o t⊢;refine a6 (λf=>aL M f λx e w=>?_) λf=>m _ ?_
   .rw[YA hN,aE];have b:xc x=W->T (rec (IntKind.i64.wrap (p+1),())) λy=>y=kM (c::r):=λB=>by
     refine v _ ⟨?_,?_,?_⟩ ?_;all_goals dsimp only;rw[b7 M M]
     grind
     grind
     .rw[(M:(p+1).toNat=p.toNat+1),px,w]
      grind
     grind
    have g:xc x=F->kM (c::r)=F:=λh=>by grind [xc,List.all_eq_false,kM,O8]
    refine cj (λh=>a6 (λq=>bE (λd=>a (g ?_)) λd=>b ?_) λq=>a6 (λq1=>bE (λd=>a (g ?_)) λd=>b ?_) λq1=>b ?_) λh=>b (O8 h);all_goals(simp only[xc,h,vz];simp only[lC,tB,aP,Bool.and_eq_false_iff,aV,cP,gE,qo];omega)
   grind [de,di]
  .simp only[kM,k,l,e];rfl
omit hN in
theorem Qy{a b:Nat}(h:a<=b):a.log2<=b.log2:=by
 by_cases c:a=0;simp_all
 .have d:b≠0:=M;have:=(Nat.log2_lt d (k:=b.log2+1)).1 (xy _);have:=(Nat.log2_lt c (k:=b.log2+1)).2 M;omega
omit hN in
theorem Qz{d:Nat}(h:d<10):((([48,49,50,51,52,53,54,55,56,57]:Z bc).take (d+1)).drop d)=[UInt8.ofNat (48+d)]:=by
 have:∀d:Fin 10,((([48,49,50,51,52,53,54,55,56,57]:Z bc).take (d.val+1)).drop d.val)=[UInt8.ofNat (48+d.val)]:=by decide +kernel
 exact this ⟨d,h⟩
def Dy(u:Nat):Z bc:=if u=0 then []else Lib.decDigits u
omit hN in
theorem QA{u:Nat}(h:0<u):Dy u=Dy (u/10)++[UInt8.ofNat (48+u%10)]:=by
 unfold Dy;rw[ao M,Lib.decDigits]
 grind
theorem acB{n:Int}(c:cG n):T (Uk N n) λr=>r=Lib.itoa n:=by
 have j:=c;unfold cG at j;unfold Uk;refine bt (λh=>ad ?_) λh0=>aS (λs=>s.1.1=(n.natAbs:Int)/\s.1.2=if n<0 then [45]else []) (λJ b=>a6 (λh=>b _ ⟨?_,?_⟩) λh=>b _ ⟨?_,?_⟩) λs a=>?_
 .subst h;have:=wY 0;rw[Lib.decDigits,dif_pos M]at this
  grind
 grind [b7,ni]
 grind
 grind [ni]
 grind
 obtain⟨⟨m,B⟩,u⟩:=s;obtain⟨d,e⟩:=a;dsimp only at d e⊢;subst d e;have k:(if n<0 then [45]else [])++Dy n.natAbs=Lib.itoa n:=by
  unfold Dy Lib.itoa
  grind
 have f:(Lib.itoa n).length<=21:=Lib.itoa_length_le n c.1 c.2;rw[<-k]at f⊢;rw[jf]at f;refine aS (λs=>s.1=Dy n.natAbs) (λJ b=>?_) λs a=>?_
 .refine bl (λs=>0<=s.1.1/\s.1.1<=9223372036854775808/\Dy s.1.1.toNat++s.1.2=Dy n.natAbs) (λs=>s.1.1.toNat.log2+(if 0<s.1.1 then 1 else 0)) ⟨by grind,by grind,?_⟩ ?_ ?_
  grind
  .dsimp only;have:n.natAbs.log2<64:=by rw[Nat.log2_lt M];omega
   grind
  rintro rec ⟨⟨p,l⟩,u⟩ ⟨g,o,q⟩ t;dsimp only at g o q⊢;refine a6 (λi=>?_) λi=>b _ ?_
  .obtain ⟨m,rfl⟩:=oR g;have v:(m:Int).tmod 10=((m%10:Nat):Int):=by grind
   have e2:(m:Int).tdiv 10=((m/10:Nat):Int):=by grind
   have e3:IntKind.u64.wrap (((m%10:Nat):Int)+1)=((m%10+1:Nat):Int):=by grind [ni]
   have w:IntKind.u64.wrap ((m/10:Nat):Int)=((m/10:Nat):Int):=ni M M;rw[v,e2,e3,w];simp only[hx];simp only[Qz (ui m (show 0<10 by omega))];have x:0<m:=M;have a:=QA x;have y:Dy (m/10)++([UInt8.ofNat (48+m%10)]++l)=Dy n.natAbs:=by grind
   have z:=bN List.length y;rw[jf,jf]at z;have C:0<=(if n<0 then [45]else []:Z bc).length:=eM _;refine bO b9 (bO b9 (bO ?_ (bO ?_ (bO b9 (t _ ⟨?_,?_,?_⟩ ?_)))))
   .simp only[aP,aV,ie,za];omega
   .simp only[aV];have:maxLen=9223372036854775807:=rfl
    grind
   grind
   grind
   grind [hx]
   .dsimp only;rw[hx,hx,aq i];by_cases A:m/10=0
    .rw[A,ao M];simp
    .rw[aq M];have:(m/10).log2<m.log2:=by
      have D:(m/10).log2<=(m/2).log2:=Qy M;have E:m.log2=(m/2).log2+1:=by rw[Nat.log2_def,aq M]
      omega
     omega
  grind [Dy]
 .obtain ⟨p,u⟩:=s;dsimp only at a⊢;subst a;refine bO ?_ (ad rfl);simp only[aV];have:maxLen=9223372036854775807:=rfl;omega
end
theorem O9:∀(l:Z bc)(a k:Nat),(∀x∈l,iW x)->a<10^k->jD a l<10^(k+l.length)
 |[],a,k,_,h=>by rw[mK];grind|c::l,a,k,b,h=>by
  rw[lX];have d:=OU (b c aH);have:=O9 l (a*10+tt c) (k+1) (λx e=>b x (by grind)) (by grind)
  grind
theorem Pa{l:Z bc}(a:∀x∈l,iW x)(b:l.length<=19):jD 0 l<10000000000000000000:=by
 have c:=O9 l 0 0 a b9;have d:10^(0+l.length)<=10^19:=Nat.pow_le_pow_right M M
 grind
section
variable{N:Nat}(hN:1073741824<=N)
include hN
theorem QB{l:Z bc}(D:l.length<=19){P:Int×Int->Prop}{J:Int×ab->V (Int×Int)}(j:(∃x∈l,¬iW x)->P (0,2))(E:(∀x∈l,iW x)->T (J ((jD 0 l:Int),())) P):
  T (aQ (λk(((d,b),_):(Int×Int)×ab)=>
   bif b<l.length then
    (ax l b).bind λm=>
    (yF N ((m.toNat:Int),[48,49,50,51,52,53,54,55,56,57])).bind λn=>
    bif !n then O (0,2)
    else
     (ax l b).bind λo=>
     k ((IntKind.u64.wrap ((IntKind.u64.wrap (10*d))+(IntKind.u64.wrap (IntKind.u8.wrap ((o.toNat:Int)-48)))),IntKind.i64.wrap (b+1)),())
   else J (d,())) N ((0,0),())) P:=by
 refine bl (λs=>0<=s.1.2/\s.1.2<=l.length/\s.1.1=(jD 0 (l.take s.1.2.toNat):Int)/\∀x∈l.take s.1.2.toNat,iW x) (λs=>(l.length-s.1.2).toNat) ⟨aH,aH,by simp[mK],aH⟩ (by grind) ?_;rintro G ⟨⟨a,p⟩,u⟩ ⟨f,r,g,c⟩ t;dsimp only at f r g c⊢;apply a6<;>intro H
 .obtain ⟨q,rfl⟩:=oR f;have h:q<l.length:=M;have v:ax l (q:Int)=O l[q]:=dq h;rw[v,aE];refine aB (Um hN l[q] Dx b9) λy i=>?_;rw[Nk]at i;subst i;refine cj (λe=>ad (j ⟨l[q],fR h,by grind⟩)) λe=>?_;have w:iW l[q]:=by grind
  rw[aE];simp only[hx]at g c;have I:=Pa c (by grind);have z:l.take (q+1)=l.take q++[l[q]]:=by grind [List.take_add_one,cX]
  have A:=w;unfold iW at A;have K:=Pa (l:=l.take (q+1)) (λx L=>by grind) (by grind);have Q:jD 0 (l.take (q+1))=jD 0 (l.take q)*10+tt l[q]:=by rw[z,yw]
  have R:tt l[q]=l[q].toNat-48:=rfl;have B:IntKind.u8.wrap ((l[q].toNat:Int)-48)=((l[q].toNat-48:Nat):Int):=by
   have:IntKind.u8.wrap ((l[q].toNat:Int)-48)=((l[q].toNat:Int)-48)%256:=rfl
   grind
  have e1:IntKind.u64.wrap (10*a)=10*a:=ni M M;have e2:IntKind.u64.wrap ((l[q].toNat-48:Nat):Int)=((l[q].toNat-48:Nat):Int):=ni M M;have C:IntKind.u64.wrap (10*a+((l[q].toNat-48:Nat):Int))=(jD 0 (l.take (q+1)):Int):=by grind [ni]
  rw[B,e1,e2,C];refine t _ ⟨?_,?_,?_,?_⟩ ?_;all_goals dsimp only;rw[b7 M M]
  grind
  grind
  grind
  grind
  grind
 grind [de]
theorem acC(s:X.bP)(L:s.length<=1048576):T (Ul N s) λr=>r=match X.nw s with
  |some v=>(v,0)|none=>(0,2):=by
 cases s with
 |nil=>exact ad rfl|cons c r=>
  unfold Ul;have t:decide (0<((c::r).length:Int))=W:=aH;rw[t,aW,show ax (c::r) 0=O c from rfl,aE];have w:((c.toNat:Int)==45)=(c==45):=by
   have:=sv (p:=λc=>((c.toNat:Int)==45)==(c==45)) (by decide +kernel) c
   grind
  rw[w];refine aS (λx=>x.1=(bif c==45 then r else c::r,bif c==45 then 9223372036854775808 else 9223372036854775807)) (λJ b=>aw (λe=>bO aH (b _ ?_)) λe=>b _ ?_) ?_
  grind
  grind
  rintro⟨⟨d,Mloc⟩,u⟩ j;dsimp only at j⊢;have hi:(match X.nw (c::r)with
   |some v=>(v,0)|none=>((0:Int),(2:Int)))=bif qT (c==45) d then((bif c==45 then-(jD 0 d:Int)else(jD 0 d:Int)),0)else(0,2):=by
   unfold X.nw
   grind
  rw[hi];have k:Mloc=bif c==45 then 9223372036854775808 else 9223372036854775807:=(pz j).2
  clear hi j;generalize(c==45)=a at k⊢;have f:qT a d=F->T (O ((0:Int),(2:Int))) λr=>r=bif qT a d then((bif a then-(jD 0 d:Int)else(jD 0 d:Int)),0)else(0,2):=λh=>by rw[h];exact ad rfl
  have g:¬qT a d=W->qT a d=F:=λh=>by grind
  refine bt (λh=>f ?_) λh0=>a6 (λh=>f (g λq=>?_)) λP=>?_
  .have:d=[]:=oT M;subst this;rfl
  .have:=(j9.1 q).2.1;omega
  cases d with
  |nil=>grind|cons x d=>
  rw[show ax (x::d) 0=O x from rfl,aE];have n:(x::d).length<=19:=M;have Q:(x=48->a=F/\(x::d).length=1)->T (aG (λ((l,_):Int×ab)=>
     bif Mloc<l then O ((0:Int),(2:Int))
     else
      bif a then O (IntKind.i64.wrap ((IntKind.i64.wrap (0-(IntKind.i64.wrap (IntKind.u64.wrap (l-1)))))-1),(0:Int))
      else O (IntKind.i64.wrap l,(0:Int))) λA=>
    aQ (λB(((o,i),_):(Int×Int)×ab)=>
     bif i<(x::d).length then
      (ax (x::d) i).bind λC=>
      (yF N ((C.toNat:Int),[48,49,50,51,52,53,54,55,56,57])).bind λD=>
      bif !D then O ((0:Int),(2:Int))
      else
       (ax (x::d) i).bind λE=>
       B ((IntKind.u64.wrap ((IntKind.u64.wrap (10*o))+(IntKind.u64.wrap (IntKind.u8.wrap ((E.toNat:Int)-48)))),IntKind.i64.wrap (i+1)),())
     else A (o,())) N ((0,0),())) λr=>r=bif qT a (x::d)then((bif a then-(jD 0 (x::d):Int)else(jD 0 (x::d):Int)),0)else(0,2):=λG=>by
   refine aS (λy=>y=((jD 0 (x::d):Int),())/\(∀z∈x::d,iW z)) (λJ b=>QB hN n (λ⟨y,R,S⟩=>?_) λm=>b _ ⟨rfl,m⟩) ?_
   grind [qT,j9]
   .rintro _ ⟨rfl,m⟩;dsimp only;generalize hv:jD 0 (x::d)=v at*;apply a6<;>intro h
    .have:qT a (x::d)=F:=g λq=>by grind [j9]
     grind
    .have:qT a (x::d)=W:=j9.2 ⟨aH,n,λe=>G (by grind),m,by grind⟩;rw[this];cases a with
     |false=>simp only[aX,aW]at k⊢;rw[b7 M M];exact ad rfl|true=>
      simp only[aW]at k⊢;refine ad ?_;congr 1;by_cases v0:v=0
      .subst v0;rfl
      grind [ni,b7]
  have H:((x.toNat:Int)==48)=(x==48):=by
   have:=sv (p:=λc=>((c.toNat:Int)==48)==(c==48)) (by decide +kernel) x
   grind
  rw[H];refine bt (λe=>aw (λI=>f (g λq=>?_)) λI=>a6 (λK=>f (g λq=>?_)) λK=>?_) λe=>?_
  grind [j9]
  grind [j9,ie]
  grind
  grind
end
def pJ:Z X.bP:=[[97,110,100],[97,110,121],[99,111,110,99,101,112,116],[101,108,115,101],[101,110,100],[101,118,101,114,121],[102,97,108,115,101],[102,105,114,115,116],[105,100],[105,102],[105,110],[105,110,116],[110,111,110,101],[110,111,116],[111,110,108,121],[111,114],[115,101,108,102],[115,105,122,101],[115,117,109],[116,101,120,116],[116,104,101,110],[116,114,117,101]]
def qZ(k:Int):Int:=if k<1 then-1 else if 34<k then-1 else if k<=7 then 0 else if k<=19 then 1 else if k=29 then 1 else if k=30 then 3 else 2
section
variable{N:Nat}(hN:1073741824<=N)
theorem acG(k:Int):Xl N k=O (qZ k):=by grind [Xl,qZ]
theorem acH(k:Int):T (Xx N k) λr=>r=qZ k:=by grind [Xx,qZ,eZ,bt,ad]
include hN
theorem acI(s:X.bP):T (sr N s) λr=>r=pJ.contains s:=by
 unfold sr;have e:∀l,l=pJ->T (aG (λ(_:ab×ab)=>O F) λh=>aQ (λi((b,_):Int×ab)=>bif b<(l.length:Int)then(ax l b).bind λj=>bif j==s then O W else i (IntKind.i64.wrap (b+1),())else h ((),())) N (0,())) λr=>r=pJ.contains s:=λl c=>by
  have v:l.length=22:=by rw[c];rfl
  rw[<-c];clear c;refine aS (λ_=>l.contains s=F) (λJ k=>?_) λx d=>ad d.symm;refine bl (λa=>0<=a.1/\a.1<=l.length/\s∉l.take a.1.toNat) (λa=>(l.length-a.1).toNat) ⟨aH,aH,aH⟩ (by grind) ?_;rintro w ⟨p,u⟩ ⟨f,m,n⟩ o;dsimp only at f m n⊢;refine a6 (λg=>aL f g λx d t=>bt (λq=>ad ?_) λq=>o _ ⟨?_,?_,?_⟩ ?_) λg=>k _ ?_
  grind
  all_goals try(dsimp only;rw[b7 M M])
  grind
  grind
  .rw[(M:(p+1).toNat=p.toNat+1),px,t]
   grind
  grind
  grind [de]
 exact e _ rfl
end
def yJ(s:X.bP):aa:=kM s&&!pJ.contains s
def lq(k:Int):aa:=(decide (7<=k)&&(decide (k<=13)&&!(k==11)))||decide (31<=k)
def pK(n:cY):aa:=(qZ n.kind==(n.aD.length:Int))&&(((n.kind==1)||(n.int==0))&&(!(n.int==-9223372036854775808)&&(if lq n.kind=W then yJ n.text else(n.text==[])||((n.kind==2)&&decide ((n.text.length:Int)<=4096)))))
section
variable{N:Nat}(hN:1073741824<=N)
include hN
theorem ahV(n:cY)(g:n.text.length<=1048576):T (F57 N n) λr=>r=pK n:=by
 unfold F57;rw[acG,aE];have hv:∀R:aa,(R=if lq n.kind=W then yJ n.text else(n.text==[])||((n.kind==2)&&decide ((n.text.length:Int)<=4096)))->T (bif 7<=n.kind then bif n.kind<=13 then bif !(n.kind==11)then(sq N n.text).bind λa=>bif a then(sr N n.text).bind λb=>O (!b)else O F
   else bif 31<=n.kind then(sq N n.text).bind λa=>bif a then(sr N n.text).bind λb=>O (!b)else O F else bif n.kind==2 then bif (n.text.length:Int)<=4096 then O W else O (n.text==[])else O (n.text==[])
   else bif 31<=n.kind then(sq N n.text).bind λa=>bif a then(sr N n.text).bind λb=>O (!b)else O F else bif n.kind==2 then bif (n.text.length:Int)<=4096 then O W else O (n.text==[])else O (n.text==[])
   else bif 31<=n.kind then(sq N n.text).bind λa=>bif a then(sr N n.text).bind λb=>O (!b)else O F else bif n.kind==2 then bif (n.text.length:Int)<=4096 then O W else O (n.text==[])else O (n.text==[])) λr=>r=R:=λR f=>by
  have P:lq n.kind=W->T ((sq N n.text).bind λa=>bif a then(sr N n.text).bind λb=>O (!b)else O F) λr=>r=R:=λc=>by
   rw[f,aq c];refine aB (ahG hN n.text g) λy i=>?_;subst i;unfold yJ;refine aw (λe=>?_) λe=>ad (by grind)
   grind [aB,acI,ad]
  have Q:(¬31<=n.kind->lq n.kind=F)->T (bif 31<=n.kind then(sq N n.text).bind λa=>bif a then(sr N n.text).bind λb=>O (!b)else O F else bif n.kind==2 then bif (n.text.length:Int)<=4096 then O W else O (n.text==[])else O (n.text==[])) λr=>r=R:=λc=>by
   refine eZ (λh=>P (by simp[lq,h])) λh=>?_;have j:=c M;rw[f,j,ao aH];refine aw (λe=>aw (λk=>ad ?_) λk=>ad ?_) λe=>ad ?_
   grind
   grind
   grind
  grind [eZ,cj,lq]
 unfold pK;refine bE (λh=>ad (by grind)) λh=>?_;rw[h,kn,lD];apply aw<;>intro o
 .have l:(n.kind==1)=F:=by grind
  refine aw (λm=>ad ?_) λm=>aw (λd=>ad ?_) λd=>?_
  grind
  grind
  grind
 .have l:(n.kind==1)=W:=by grind
  refine aw (λd=>ad ?_) λd=>?_
  grind
  grind
end
section
variable{N:Nat}(hN:1073741824<=N)
theorem acJ(s:X.bP):T (QC N s) λr=>r=pJ.contains s:=by
 unfold QC;refine aS (λx=>x.1=pJ.contains s) (λJ a=>?_) λ⟨b,u⟩ c=>by dsimp only at c⊢;subst c;exact aw (λe=>ad e.symm) λe=>ad e.symm
 have d:∀w∈pJ,s=w->T (J (W,())) λr=>r=pJ.contains s:=λw f e=>a _ (by grind);iterate 21 refine bt (λh=>d _ b9 h) λ_=>?_
 refine a _ ?_;dsimp only;by_cases q:s=[116,114,117,101]
 .subst q;decide
 .have b:(s==[116,114,117,101])=F:=by grind
  rw[b];clear a d;symm;simp_all[pJ]
theorem acK(k:Int)(d:1<=k)(f:k<=34):T (QG N k) λr=>r=lq k:=by
 unfold QG;refine aS (λx=>x.1=lq k) (λJ a=>?_) λ⟨b,u⟩ c=>by dsimp only at c⊢;subst c;exact aw (λe=>ad e.symm) λe=>ad e.symm
 iterate 9 refine bt (λh=>a _ (by rw[h];rfl)) λ_=>?_
 refine a _ ?_;dsimp only;unfold lq
 grind
theorem QJ{s:X.bP}(h:kM s=W):s≠[]/\s.length<=32:=by
 unfold kM at h
 grind
include hN
theorem acL(s:X.bP)(c:s.length<=1048576):T (QF N s) λr=>r=yJ s:=by
 have e:aaA N (tW.mk 3 s 0 0)=(l8 N s).bind λd=>bif d then(QC N s).bind λf=>O (!f)else O F:=rfl
 unfold QF aaB;obtain⟨y,g,rfl⟩:=acA hN s c;obtain⟨z,h,rfl⟩:=acJ (N:=N) s;dsimp only;rw[e,g];unfold yJ;cases i:kM s with
 |false=>exact ⟨F,rfl,rfl⟩|true=>
  obtain⟨a,b⟩:=QJ i;have j:(((3:Int)==3)&&(!s.isEmpty&&decide (s.length<=4096)))=W:=by grind
  simp only[aE,aW,h,j];cases pJ.contains s with
  |true=>exact ⟨F,rfl,rfl⟩|false=>exact ⟨W,rfl,rfl⟩
theorem ahW(n:cY)(l:n.text.length<=1048576):T (F43 N n) λr=>r=pK n:=by
 unfold F43 pK;refine aB (acH n.kind) λy c=>?_;subst c;refine bE (λh=>ad ?_) λh=>?_
 grind
 have d:1<=n.kind/\n.kind<=34:=by
  by_cases f:n.kind<1
  .unfold qZ at h;grind
  .by_cases e:34<n.kind
   .unfold qZ at h;grind
   grind
 rw[h,kn,lD];have m:∀R:aa,R=(if lq n.kind=W then yJ n.text else(n.text==[])||((n.kind==2)&&decide ((n.text.length:Int)<=4096)))->
   T ((QG N n.kind).bind λg=>bif g then(QF N n.text).bind λi=>O i else bif n.text==[]then O W else bif n.kind==2 then O (decide ((n.text.length:Int)<=4096))else O F) λr=>r=R:=λR j=>by
  refine aB (acK n.kind d.1 d.2) λy c=>?_;subst c;subst j;cases o:lq n.kind with
  |true=>grind [aB,acL,ad]|false=>simp only[aX,jo,cA];refine aw (λa=>ad (by grind)) λa=>aw (λb=>ad (by grind)) λb=>ad (by grind)
 apply cj<;>intro f
 .refine cj (λe=>ad (by grind)) λe=>aw (λk=>ad (by grind)) λk=>?_
  grind
 grind
end
abbrev kd(E:Z cY):Nat->V (Nat×Nat):=sub E cY.aD pK
def qi(E:Z cY):Int:=if 256<E.length then 4 else match kd E 0 with
 |none=>80|some (e,a)=>if e≠E.length then 80 else if 32<a then 4 else 0
section
variable{N:Nat}(hN:1073741824<=N)
def QK(E:Z cY)(p:Nat)(i:Int)(c:Nat)(y:Int×Hp):Prop:=match(if i=(c:Int)then kd E c else Y)with
 |none=>y.1=0|some (e,a)=>y.1=(a:Int)/\y.2.nX[p]?=O (e:Int)
include hN
theorem acM(l:oF)(p:Nat)(d0:l.aj.length<=256)(G:∀n∈l.aj,n.text.length<=1048576/\n.aD.length<=1048576):∀(d Mloc:Nat)(i:Int)(c:Nat)(h:Hp),d<=Mloc->c<=l.aj.length->l.aj.length<c+d->h.nX[p]?=O (c:Int)->
  T (Nl N (O p) l Mloc i h) (QK l.aj p i c):=λd=>by
 induction d with
 |zero=>grind|succ d H=>
  intro Mloc i c h e0 f0 g0 u;obtain⟨Mloc,rfl⟩:∃I,Mloc=I+1:=⟨Mloc-1,M⟩
  show T (F42 N (i,O p,l,Nl N (O p) l Mloc) h) _;unfold F42;simp only[aE];rw[u,aE];refine bE (λhi=>ad ?_) λhi=>?_
  .unfold QK;grind
  subst hi;have v:∀y:Int×Hp,QK l.aj p (c:Int) c y↔(match kd l.aj c with
   |none=>y.1=0|some (e,g)=>y.1=(g:Int)/\y.2.nX[p]?=O (e:Int)):=λy=>by unfold QK;grind
  refine eZ (λw=>ad ?_) λw=>?_
  .rw[v,show kd l.aj c=Y by rw[kd,yH,vC M];rfl]
  obtain⟨n,K,L,z⟩:=dJ (l:=l.aj) (i:=(c:Int)) M w;rw[K,aE];rw[hx]at z;refine aB (ahW hN n (G n L).1) λy b=>?_;subst b;have A:kd l.aj c=if pK n=W then hO (kd l.aj) n.aD (c+1) 0 else Y:=by rw[kd,yH,z];rfl
  refine cj (λb=>ad ?_) λb=>?_
  grind
  rw[b,aq rfl]at A;have h0:p<h.nX.length:=(cr.1 u).1;simp only[aE];refine fj ?_;rw[b7 M M];refine aS (λx=>match kd l.aj c with
   |none=>False|some (e,g)=>x.1+1=(g:Int)/\0<=x.1/\x.1<=1000/\x.2.nX[p]?=O (e:Int)) (λJ P=>?_) ?_
  .refine bl (λs=>∃(q j:Nat)(k:Nat),s.1.1=(j:Int)/\s.1.2=(k:Int)/\k<=n.aD.length/\c+1<=q/\q<=l.aj.length/\j<=256/\s.2.nX[p]?=O (q:Int)/\hO (kd l.aj) (n.aD.drop k) q j=hO (kd l.aj) n.aD (c+1) 0) (λs=>(n.aD.length-s.1.2).toNat) ⟨c+1,0,0,rfl,rfl,M,M,M,M,by grind,rfl⟩ (by grind) ?_;rintro i0 ⟨⟨j0,k0⟩,Q⟩ ⟨q,j,k,B,C,l0,m0,R,n0,o,f⟩ S;dsimp only at B C o⊢;subst B C;refine a6 (λD=>?_) λD=>P _ ?_
   .obtain ⟨x,t,_,U⟩:=dJ (l:=n.aD) (i:=(k:Int)) M D;rw[t,aE];rw[hx]at U;have X:n.aD.drop k=x::n.aD.drop (k+1):=by grind [cr,oS]
    rw[X]at f;simp only[hO]at f;refine aB (H Mloc x q Q M R M o) λy b=>?_;unfold QK at b;by_cases e:x=(q:Int)
    .rw[aq e]at b f;cases m:kd l.aj q with
     |none=>
      rw[m]at b f
      grind [ad]
     |some r=>
      obtain⟨E,g⟩:=r;rw[m]at b f;obtain⟨a0,b0⟩:=(b:y.1=(g:Int)/\y.2.nX[p]?=O (E:Int))
      have o0:=Dz l.aj cY.aD pK m;have c0:=sub_le l.aj cY.aD pK m;rw[a0];refine bt (λa=>M) λa=>?_;refine S _ ⟨E,max j g,k+1,?_,?_,M,M,c0,M,b0,f⟩ ?_
      grind
      grind [b7]
      grind [b7]
    .rw[ao e]at b f
     grind [ad]
   .rw[EV M]at f;rw[A,<-f];exact⟨rfl,by grind,by grind,o⟩
  .rintro ⟨p0,q0⟩ t;dsimp only at t⊢;refine ad ?_;rw[v];cases m:kd l.aj c with
   |none=>grind|some r=>grind [b7]
theorem ahX(l:oF)(f:∀n∈l.aj,n.text.length<=1048576/\n.aD.length<=1048576):T (F17 N l) λr=>r=qi l.aj:=by
 unfold F17;have:T (Ut N l Ig) λr=>r.1=qi l.aj:=by
  unfold Ut qi;refine a6 (λg=>ad (by grind)) λg=>?_;rw[ao M];refine fj ?_;simp only[aE];rw[show(Ig.nX++[(0:Int)])[Ig.nX.length]?=O 0 by simp,aE];refine fj ?_;refine aB (acM hN l Ig.nX.length M f (l.aj.length+1) N 0 0 _ M M M aH) λy c=>?_;unfold QK at c;rw[aq (show(0:Int)=((0:Nat):Int)from rfl)]at c;cases d:kd l.aj 0 with
  |none=>rw[d]at c;rw[c];exact ad rfl|some r=>
   obtain⟨e,h⟩:=r;rw[d]at c;obtain⟨a,b⟩:=(c:y.1=(h:Int)/\y.2.nX[Ig.nX.length]?=O (e:Int))
   have m:=Dz l.aj cY.aD pK d;rw[a,b,aE];refine bt (λq=>M) λq=>bE (λi=>ad ?_) λi=>a6 (λj=>ad ?_) λj=>ad ?_
   grind
   grind
   grind
 obtain⟨r,o,k⟩:=this;exact⟨r.1,by grind,k⟩
end
def pL{α:Type}(l:Z α)(g:Int×α->V (Int×Int))(r:Except eh ab):Prop:=match r with
 |.ok _=>∀x∈l,∃i p,0<=i/\i<(l.length:Int)/\g (i,x)=O (p,0)|.error e=>e.f.ka≠0
def YB{α:Type}(N:Nat)(c e:Int)(d:Z α)(f:Int×α->V (Int×Int)):V (Except eh ab):=aQ (λg((a,_):(Int)×ab)=>bif decide (a<(d.length:Int))then(ax d a).bind λh=>(rA N (decide (a<e),h9.mk c a 0 4)).bind λi=>eG i (λj=>O (Except.error j)) λm=>(f (a,h)).bind λb=>(rA N (b.2==0,h9.mk c a b.1 b.2)).bind λk=>eG k (λl=>O (Except.error l)) λn=>g ((IntKind.i64.wrap (a+1)),())else O (Except.ok ())) N (0,())
def acN{α:Type}(N:Nat)(b:Z α)(c:α->V aa):V Int:=aG (λ(_:(ab)×ab)=>O (-1)) λd=>aQ (λe((a,_):(Int)×ab)=>bif decide (a<(b.length:Int))then(ax b a).bind λf=>(c f).bind λg=>bif g then O a else e ((IntKind.i64.wrap (a+1)),())else d ((),())) N (0,())
section
variable{N:Nat}(hN:1073741824<=N)
include hN
theorem KQ{α:Type}(l:Z α)(g:α->V aa)(d:l.length<=536870912)(a:∀x,x∈l->T (g x) λ_=>True):T (acN N l g) λr=>-1<=r/\r<l.length:=by
 unfold acN;refine cI (λJ e=>?_) ?_;refine cN (↑l.length) λrec _ _ f h i=>?_;dsimp only;apply a6<;>intro b;refine aL a8 a8 λx c j=>have k:=a x c;ay (a _ a8) λy m n=>?_;apply aw<;>intro b;refine ad ?_;omega
 grind [b7]
 grind
 grind [ad]
theorem Pd(b:aa)(f:h9):T (rA N (b,f)) λr=>r=if b then .ok ()else .error ⟨f⟩:=by cases b<;>exact ⟨_,rfl,rfl⟩
theorem YC(a:Int):T (M4 N a) λ_=>True:=by grind [M4,eZ,ad]
theorem lr(s:bP)(g:s.length<=1048576):T (l8 N s) λr=>r=W->s≠[]:=by
 unfold l8;apply bt<;>intro a
 grind [ad,b7,cq]
 apply a6<;>intro a
 grind [ad,b7,cq]
 refine aL a8 M λx b c=>ay (YC a8 _) λy d f=>?_;apply cj<;>intro a
 grind [ad,b7,cq]
 refine cI (λJ h=>?_) ?_;refine cN (↑(List.length s)) λrec _ _ i j k=>?_;dsimp only;apply a6<;>intro a;refine aL a8 a8 λx b c=>ay (YC a8 _) λy d f=>?_;apply cj<;>intro a
 grind [a6,bE,ad,b7,cq]
 grind [b7]
 grind
 grind [ad,b7,cq]
 all_goals(intro _ e;subst e;simp at*)
theorem acO(l:Z bP)(a:bP)(b:l.length<=1048576):T (WC N (l,a)) λr=>-1<=r/\r<l.length:=by
 unfold WC;refine cI (λJ c=>?_) ?_;refine cN (↑l.length) λrec _ _ d e f=>?_;dsimp only;apply a6<;>intro g
 grind [aL,bt,ad,b7]
 grind
 grind [ad]
theorem XC(l:Z bP)(a:bP)(b:l.length<=1048576):T (Z0 N (l,a)) λr=>True:=by grind [Z0,ay,acO,ad]
theorem Uu(b:aa):T (Qu N b) λr=>True:=by unfold Qu;apply aw<;>intro a;refine ad ?_;dsimp only;refine ad ?_;dsimp only
theorem F1{α:Type}(a b:Int)(l:Z α)(g:Int×α->V (Int×Int))(r:l.length<=1048576)(k:∀i x,0<=i->i<(l.length:Int)->x∈l->T (g (i,x)) λ_=>True):T (YB N a b l g) (pL l g):=by
 unfold YB;refine bl (λs=>0<=s.1/\s.1<=l.length/\∀j:Nat,(j:Int)<s.1->∀x,l[j]?=O x->∃i p,0<=i/\i<(l.length:Int)/\g (i,x)=O (p,0)) (λs=>(l.length-s.1).toNat) ⟨aH,aH,λj e=>by grind⟩ (by grind) ?_;rintro rec ⟨p,u⟩ ⟨m,n,f⟩ o;dsimp only at m n f;apply a6<;>intro t;refine aL a8 a8 λx h q=>ay (Pd a8 _ _) λy c d=>pI (λy c=>?_) λy c=>?_;refine ad ?_;rotate_left;refine ay (k _ _ a8 a8 a8) λy c d=>ay (Pd a8 _ _) λy c d=>pI (λy c=>?_) λy c=>?_;refine ad ?_;rotate_left;apply o;dsimp only;rotate_left
 grind [b7]
 refine ad ?_;rotate_left
 grind [pL]
 grind [pL]
 .rename_i v w z A B;have C:=q;rw[d]at c;split at c
  .rename_i h0;rw[b7 M M]
   grind
  .cases c
 .intro x h;obtain⟨j,e,rfl⟩:=hB h;exact f j M _ (cX e)
theorem acP(l:Z gR)(g:gR->V aa)(a:l.length<=536870912)(b:∀x,x∈l->T (g x) λ_=>True):T (Z2 N (l,g)) λr=>-1<=r/\r<l.length:=KQ hN l g a b
theorem Uv(l:Z gR)(g:gR->V aa)(a:l.length<=536870912)(b:∀x,x∈l->T (g x) λ_=>True):T (Qv N (l,g)) λ_=>True:=by grind [Qv,ay,acP,ad]
theorem acQ(l:Z dQ)(g:dQ->V aa)(a:l.length<=536870912)(b:∀x,x∈l->T (g x) λ_=>True):T (Z3 N (l,g)) λr=>-1<=r/\r<l.length:=KQ hN l g a b
theorem acR(l:Z dQ)(g:dQ->V aa)(a:l.length<=536870912)(b:∀x,x∈l->T (g x) λ_=>True):T (WE N (l,g)) λ_=>True:=by grind [WE,ay,acQ,ad]
theorem acS(l:Z fO)(g:fO->V aa)(a:l.length<=536870912)(b:∀x,x∈l->T (g x) λ_=>True):T (Z5 N (l,g)) λr=>-1<=r/\r<l.length:=KQ hN l g a b
theorem YD(l:Z fO)(g:fO->V aa)(a:l.length<=536870912)(b:∀x,x∈l->T (g x) λ_=>True):T (TO N (l,g)) λ_=>True:=by grind [TO,ay,acS,ad]
theorem acT(l:Z hZ)(g:hZ->V aa)(a:l.length<=536870912)(b:∀x,x∈l->T (g x) λ_=>True):T (Z6 N (l,g)) λr=>-1<=r/\r<l.length:=KQ hN l g a b
theorem YE(l:Z hZ)(g:hZ->V aa)(a:l.length<=536870912)(b:∀x,x∈l->T (g x) λ_=>True):T (TP N (l,g)) λ_=>True:=by grind [TP,ay,acT,ad]
theorem acU(l:Z rz)(g:rz->V aa)(a:l.length<=536870912)(b:∀x,x∈l->T (g x) λ_=>True):T (Z8 N (l,g)) λr=>-1<=r/\r<l.length:=KQ hN l g a b
theorem YF(l:Z rz)(g:rz->V aa)(a:l.length<=536870912)(b:∀x,x∈l->T (g x) λ_=>True):T (TR N (l,g)) λ_=>True:=by grind [TR,ay,acU,ad]
theorem acV(l:Z eV)(g:eV->V aa)(a:l.length<=536870912)(b:∀x,x∈l->T (g x) λ_=>True):T (aab N (l,g)) λr=>-1<=r/\r<l.length:=KQ hN l g a b
theorem acW(l:Z eV)(g:eV->V aa)(a:l.length<=536870912)(b:∀x,x∈l->T (g x) λ_=>True):T (WN N (l,g)) λ_=>True:=by grind [WN,ay,acV,ad]
theorem acX(l:Z cR)(g:cR->V aa)(a:l.length<=536870912)(b:∀x,x∈l->T (g x) λ_=>True):T (aae N (l,g)) λr=>-1<=r/\r<l.length:=KQ hN l g a b
theorem acY(l:Z cR)(g:cR->V aa)(a:l.length<=536870912)(b:∀x,x∈l->T (g x) λ_=>True):T (WS N (l,g)) λ_=>True:=by grind [WS,ay,acX,ad]
theorem acZ(l:Z dc)(g:dc->V aa)(a:l.length<=536870912)(b:∀x,x∈l->T (g x) λ_=>True):T (aar N (l,g)) λr=>-1<=r/\r<l.length:=KQ hN l g a b
theorem ahY(l:Z dc)(g:dc->V aa)(a:l.length<=536870912)(b:∀x,x∈l->T (g x) λ_=>True):T (F67 N (l,g)) λ_=>True:=by grind [F67,ay,acZ,ad]
theorem ac0(a b:Int)(l:Z bP)(g:Int×bP->V (Int×Int))(c:l.length<=1048576)(d:∀i x,0<=i->i<(l.length:Int)->x∈l->T (g (i,x)) λ_=>True):T (ZZ N (a,b,l,g)) (pL l g):=F1 hN a b l g c d
theorem ac1(a b:Int)(l:Z dQ)(g:Int×dQ->V (Int×Int))(c:l.length<=1048576)(d:∀i x,0<=i->i<(l.length:Int)->x∈l->T (g (i,x)) λ_=>True):T (Z1 N (a,b,l,g)) (pL l g):=F1 hN a b l g c d
theorem ac2(a b:Int)(l:Z rz)(g:Int×rz->V (Int×Int))(c:l.length<=1048576)(d:∀i x,0<=i->i<(l.length:Int)->x∈l->T (g (i,x)) λ_=>True):T (Z7 N (a,b,l,g)) (pL l g):=F1 hN a b l g c d
theorem ac3(a b:Int)(l:Z dA)(g:Int×dA->V (Int×Int))(c:l.length<=1048576)(d:∀i x,0<=i->i<(l.length:Int)->x∈l->T (g (i,x)) λ_=>True):T (Z9 N (a,b,l,g)) (pL l g):=F1 hN a b l g c d
theorem ac4(a b:Int)(l:Z eV)(g:Int×eV->V (Int×Int))(c:l.length<=1048576)(d:∀i x,0<=i->i<(l.length:Int)->x∈l->T (g (i,x)) λ_=>True):T (aaa N (a,b,l,g)) (pL l g):=F1 hN a b l g c d
theorem ac5(a b:Int)(l:Z cR)(g:Int×cR->V (Int×Int))(c:l.length<=1048576)(d:∀i x,0<=i->i<(l.length:Int)->x∈l->T (g (i,x)) λ_=>True):T (aad N (a,b,l,g)) (pL l g):=F1 hN a b l g c d
def Nx(k:Nat)(v0 len:Int)(h:Hp):Prop:=∃v,h.nX[k]?=O v/\v0<=v/\v<=len
theorem ac6{k:Nat}{v0 len:Int}(l:Z Int)(f:Int->Hp->V (aa×Hp))(n:l.length<=1048576)(b:∀i h,Nx k v0 len h->T (f i h) λr=>Nx k v0 len r.2)(h:Hp)(c:Nx k v0 len h):T (Ww N (l,f) h) λr=>Nx k v0 len r.2:=by
 unfold Ww;refine aS (λs=>Nx k v0 len s.2) (λJ o=>?_) (λx a=>ad a);refine bl (λs=>0<=s.1/\s.1<=l.length/\Nx k v0 len s.2) (λs=>(l.length-s.1).toNat) ⟨aH,aH,c⟩ (by grind) ?_;rintro rec ⟨p,u⟩ ⟨d,e,g⟩ j;dsimp only at d e g;apply a6<;>intro m;refine aL a8 a8 λx a q=>ay (b _ _ a8) λy t v=>?_;apply aw<;>intro m;refine ad ?_
 grind
 apply j;dsimp only;rotate_left
 grind [b7]
 grind
 grind [b7]
theorem ac7{k:Nat}{v0 len:Int}(l:Z Int)(f:Int->Hp->V (aa×Hp))(a:l.length<=1048576)(b:∀i h,Nx k v0 len h->T (f i h) λr=>Nx k v0 len r.2)(h:Hp)(c:Nx k v0 len h):T (Wx N (l,f) h) λr=>Nx k v0 len r.2:=by grind [Wx,ay,ac6,ad]
theorem ac8{k:Nat}{v0 len:Int}(i:Int)(f:Int->Hp->V (aa×Hp))(a:∀i h,Nx k v0 len h->T (f i h) λr=>Nx k v0 len r.2)(h:Hp)(b:Nx k v0 len h):T (Wy N (i,f) h) λr=>Nx k v0 len r.2:=by grind [Wy,ay,ad]
theorem ac9(k:Nat)(l:Z l7)(g:l.length<=1048576)(c:∀s∈l,s.args.length<=1048576):∀(n:Nat)(i:Int)(v0:Int)(h:Hp),0<=v0->Nx k v0 l.length h->(l.length-v0).toNat<n->T (KB N (O k) l n i h) λr=>Nx k v0 l.length r.2
 |0,i,v0,h,_,a,j=>M|n+1,i,v0,h,h0,a,j=>by
  show T (Wz N (i,O k,l,KB N (O k) l n) h) _;obtain⟨v,hv,m,o⟩:=a;have x:k<h.nX.length:=(cr.1 hv).1;have d:Nx k v0 l.length h:=⟨v,hv,m,o⟩
  unfold Wz;simp only[aE,hv];refine aw (λ_=>ad d) λe=>aw (λ_=>ad d) λf=>fj ?_;simp only[oa,gE,cP,EQ]at e f;subst e;have p:(h.nX.set k (IntKind.i64.wrap (i+1)))[k]?=O (i+1):=by grind [b7]
  have q:∀b h,Nx k (i+1) l.length h->T (KB N (O k) l n b h) λr=>Nx k (i+1) l.length r.2:=λb h a=>ac9 k l g c n b (i+1) h M a M;refine aL M f λz t _=>aB (ac7 (k:=k) (v0:=i+1) (len:=l.length) hN z.args _ (c z t) (λb h a=>ac8 hN b _ q h a) _ ⟨_,p,M,M⟩) λy u=>ad ?_;obtain⟨v,q1,A,w⟩:=u;exact⟨v,q1,M,w⟩
theorem ada(l:Z l7)(a:l.length<=1048576)(b:∀s∈l,s.args.length<=1048576):T (WB N l) λ_=>True:=by
 have:T (KC N l Ig) λ_=>True:=by unfold KC;have c:((Ig.nX++[0]).set Ig.nX.length 0)[Ig.nX.length]?=O (0:Int):=aH;refine fj ?_;simp only[aE];refine acy aH λ_ _ _=>fj (aB (ac9 hN _ l a b N 0 0 _ M ⟨0,c,M,M⟩ M) λy d=>aw (λ_=>?_) λ_=>ad trivial);obtain⟨v,q1,f,g⟩:=d;rw[q1];exact ad trivial
 obtain⟨r,e,_⟩:=this;exact⟨r.1,by unfold WB;rw[e];rfl,trivial⟩
structure u6(x:l7):Prop where
 name:x.name.length<=1048576
 args:x.args.length<=1048576
structure QL(x:dA):Prop where
 au:x.au.length<=1048576
 left:x.left.length<=1048576
 aja:∀s∈x.left,u6 s
 right:x.right.length<=1048576
 ahZ:∀s∈x.right,u6 s
structure rp(c:dQ):Prop where
 name:c.name.length<=1048576
 dI:c.dI.length<=1048576
 bd:c.bd.length<=1048576
 ajb:∀p∈c.bd,p.name.length<=1048576
 aD:c.aD.length<=1048576
 ajj:∀p∈c.aD,p.role.length<=1048576
 ajk:∀p∈c.aD,p.au.length<=1048576
 bK:c.bK.length<=1048576
 ajl:∀p∈c.bK,p.role.length<=1048576
 ajm:∀p∈c.bK,p.au.length<=1048576
structure oG(l:dc):Prop where
 name:l.name.length<=1048576
 tv:l.tv.length<=1048576
 use:∀s∈l.tv,s.length<=1048576
 bC:l.bC.length<=1048576
 au:∀c∈l.bC,rp c
 eu:l.eu.length<=1048576
 ajn:∀r∈l.eu,r.au.length<=1048576
 ajo:∀r∈l.eu,r.name.length<=1048576
 equations:l.equations.length<=1048576
 Uw:∀q∈l.equations,QL q
 eL:l.eL.length<=1048576
 ajp:∀d∈l.eL,d.au.length<=1048576
 ah0:∀d∈l.eL,d.cells.length<=1048576
 c7:l.c7.length<=1048576
 ajq:∀d∈l.c7,d.au.length<=1048576
 ah1:∀d∈l.c7,d.eU.length<=1048576
theorem adb(x y:dQ):T (Z4 N (x,y)) λ_=>True:=⟨_,rfl,trivial⟩
theorem YG(x y:fO):T (WG N (x,y)) λ_=>True:=⟨_,rfl,trivial⟩
theorem YH(x y:hZ):T (WH N (x,y)) λ_=>True:=⟨_,rfl,trivial⟩
theorem YI(x y:gR):T (WI N (x,y)) λ_=>True:=⟨_,rfl,trivial⟩
theorem ade(x y:rz):T (WK N (x,y)) λ_=>True:=by grind [WK,bt,ad]
theorem adf(x y:eV):T (aac N (x,y)) λ_=>True:=⟨_,rfl,trivial⟩
theorem adg(x y:cR):T (aaf N (x,y)) λ_=>True:=⟨_,rfl,trivial⟩
theorem adh(i:Int)(s:bP)(l:dc)(a:oG l)(h0:0<=i)(c:i<l.tv.length)(d:s.length<=1048576):T (WD N (i,s,l)) λ_=>True:=by
 have:=a.tv;unfold WD;refine ay (lr a8 _ a8) λy e f=>?_;apply cj<;>intro b;exact dU;apply bt<;>intro b
 grind [ay,Uu,ad]
 grind [bO,b7,cq,ay,XC,Uu,ad]
set_option maxHeartbeats 4000000 in
theorem adi(l:Z dQ)(c:dQ)(u:l.length<=1048576)(t:rp c):T (WJ N (l,c)) λr=>r.2=0->c.name≠[]:=by
 obtain⟨v,w,z,n,A,o,p,B,q,s⟩:=t;unfold WJ;refine ay (lr a8 _ a8) λy b d=>?_;apply cj<;>intro a;refine ad ?_
 grind
 refine ay (acR a8 _ _ M ?_) λy b d=>?_
 grind [ek,adb]
 apply aw<;>intro a;refine ad ?_
 grind
 apply bE<;>intro a;refine ay (lr a8 _ a8) λy b d=>?_;apply cj<;>intro a;refine ad ?_
 grind
 apply bt<;>intro a;refine ad ?_
 grind
 refine cI (λJ h=>?_) ?_;refine bl (λst=>0<=st.fst.snd/\st.fst.snd<=↑c.bd.length) (λst=>(↑c.bd.length-st.fst.snd).toNat) ?_ ?_ ?_
 grind
 grind
 rintro rec ⟨⟨_,_⟩,_⟩ e i;dsimp only at e;dsimp only;obtain⟨j,k⟩:=e;apply a6<;>intro a;refine aL a8 a8 λx f m=>?_;have g:=n x f;apply bt<;>intro a;refine ad ?_
 grind
 refine ay (lr a8 _ a8) λy b d=>?_;apply cj<;>intro a;refine ad ?_
 grind
 refine bO ?_ ?_
 grind
 refine ay (YD a8 _ _ ?_ ?_) λy b d=>?_
 grind
 grind [ek,YG]
 apply aw<;>intro a;refine ad ?_
 grind
 grind [a6,ad,b7]
 grind
 rintro⟨_,_⟩;refine cI (λJ h=>?_) ?_;refine bl (λst=>0<=st.fst.snd/\st.fst.snd<=↑c.aD.length) (λst=>(↑c.aD.length-st.fst.snd).toNat) ?_ ?_ ?_
 grind
 grind
 rintro rec ⟨⟨_,_⟩,_⟩ e i;dsimp only at e;dsimp only;obtain⟨j,k⟩:=e;apply a6<;>intro a;refine aL a8 a8 λx f m=>?_;have g:=o x f;have g:=p x f;apply bt<;>intro a;refine ad ?_
 grind
 refine ay (lr a8 _ a8) λy b d=>?_;apply cj<;>intro a;refine ad ?_
 grind
 refine ay (lr a8 _ a8) λy b d=>?_;apply cj<;>intro a;refine ad ?_
 grind
 refine bO ?_ ?_
 grind
 refine ay (YE a8 _ _ ?_ ?_) λy b d=>?_
 grind
 grind [ek,YH]
 apply aw<;>intro a;refine ad ?_
 grind
 grind [bE,ad,b7]
 grind
 rintro⟨_,_⟩;refine cI (λJ h=>?_) ?_;refine bl (λst=>0<=st.fst.snd/\st.fst.snd<=↑c.bK.length) (λst=>(↑c.bK.length-st.fst.snd).toNat) ?_ ?_ ?_
 grind
 grind
 rintro rec ⟨⟨_,_⟩,_⟩ e i;dsimp only at e;dsimp only;obtain⟨j,k⟩:=e;apply a6<;>intro a;refine aL a8 a8 λx f m=>?_;have g:=q x f;have g:=s x f;apply bt<;>intro a;refine ad ?_
 grind
 refine ay (lr a8 _ a8) λy b d=>?_;apply cj<;>intro a;refine ad ?_
 grind
 refine ay (lr a8 _ a8) λy b d=>?_;apply cj<;>intro a;refine ad ?_
 grind
 refine bO ?_ ?_
 grind
 refine ay (Uv a8 _ _ ?_ ?_) λy b d=>?_
 grind
 grind [ek,YI]
 apply aw<;>intro a;refine ad ?_
 grind
 grind [b7]
 grind
 grind [ad]
 apply bt<;>intro a
 grind
 refine cI (λJ h=>?_) ?_;refine bl (λst=>0<=st.fst.snd/\st.fst.snd<=↑c.bd.length) (λst=>(↑c.bd.length-st.fst.snd).toNat) ?_ ?_ ?_
 grind
 grind
 rintro rec ⟨⟨_,_⟩,_⟩ e i;dsimp only at e;dsimp only;obtain⟨j,k⟩:=e;apply a6<;>intro a;refine aL a8 a8 λx f m=>?_;have g:=n x f;apply bt<;>intro a;refine ad ?_
 grind
 refine ay (lr a8 _ a8) λy b d=>?_;apply cj<;>intro a;refine ad ?_
 grind
 refine bO ?_ ?_
 grind
 refine ay (YD a8 _ _ ?_ ?_) λy b d=>?_
 grind
 grind [ek,YG]
 apply aw<;>intro a;refine ad ?_
 grind
 grind [a6,ad,b7]
 grind
 rintro⟨_,_⟩;refine cI (λJ h=>?_) ?_;refine bl (λst=>0<=st.fst.snd/\st.fst.snd<=↑c.aD.length) (λst=>(↑c.aD.length-st.fst.snd).toNat) ?_ ?_ ?_
 grind
 grind
 rintro rec ⟨⟨_,_⟩,_⟩ e i;dsimp only at e;dsimp only;obtain⟨j,k⟩:=e;apply a6<;>intro a;refine aL a8 a8 λx f m=>?_;have g:=o x f;have g:=p x f;apply bt<;>intro a;refine ad ?_
 grind
 refine ay (lr a8 _ a8) λy b d=>?_;apply cj<;>intro a;refine ad ?_
 grind
 refine ay (lr a8 _ a8) λy b d=>?_;apply cj<;>intro a;refine ad ?_
 grind
 refine bO ?_ ?_
 grind
 refine ay (YE a8 _ _ ?_ ?_) λy b d=>?_
 grind
 grind [ek,YH]
 apply aw<;>intro a;refine ad ?_
 grind
 grind [bE,ad,b7]
 grind
 rintro⟨_,_⟩;refine cI (λJ h=>?_) ?_;refine bl (λst=>0<=st.fst.snd/\st.fst.snd<=↑c.bK.length) (λst=>(↑c.bK.length-st.fst.snd).toNat) ?_ ?_ ?_
 grind
 grind
 rintro rec ⟨⟨_,_⟩,_⟩ e i;dsimp only at e;dsimp only;obtain⟨j,k⟩:=e;apply a6<;>intro a;refine aL a8 a8 λx f m=>?_;have g:=q x f;have g:=s x f;apply bt<;>intro a;refine ad ?_
 grind
 refine ay (lr a8 _ a8) λy b d=>?_;apply cj<;>intro a;refine ad ?_
 grind
 refine ay (lr a8 _ a8) λy b d=>?_;apply cj<;>intro a;refine ad ?_
 grind
 refine bO ?_ ?_
 grind
 refine ay (Uv a8 _ _ ?_ ?_) λy b d=>?_
 grind
 grind [ek,YI]
 apply aw<;>intro a;refine ad ?_
 grind
 grind [b7]
 grind
 grind [ad]
theorem YJ(i:Int)(c:dQ)(l:dc)(a:oG l)(h0:0<=i)(b:i<l.bC.length)(d:rp c):T (TQ N (i,c,l)) λr=>r.2=0->c.name≠[]:=by
 have:=a.bC
 grind [TQ,bO,b7,cq,ay,adi,ad]
theorem adj(i:Int)(r:rz)(l:dc)(c:oG l)(h0:0<=i)(e:i<l.eu.length)(f:r.au.length<=1048576)(g:r.name.length<=1048576):T (WL N (i,r,l)) λ_=>True:=by
 have:=c.eu;unfold WL;refine ay (lr a8 _ a8) λy a b=>?_;apply cj<;>intro d;exact dU;refine ay (lr a8 _ a8) λy a b=>?_;apply cj<;>intro d;exact dU;refine bO ?_ ?_
 grind
 refine ay (YF a8 _ _ ?_ ?_) λy a b=>?_
 grind
 grind [ek,ade]
 grind [ay,Uu,bE,ad,a6]
theorem adk(l:Z l7)(k:l.length<=1048576)(b:∀s∈l,u6 s):T (TS N l) λ_=>True:=by
 have f:=λs c=>(b s c).name;have g:=λs c=>(b s c).args;unfold TS;apply a6<;>intro a;exact dU;refine cI (λJ h=>?_) ?_;refine cN (↑l.length) λrec _ _ m n o=>?_;dsimp only;apply a6<;>intro a;refine aL a8 a8 λx d p=>have e:=b x d;have e:=f x d;have e:=g x d;ay (lr a8 _ a8) λy i j=>cI (λJ h=>?_) ?_
 grind
 rintro⟨_,_⟩;apply a6<;>intro a;exact dU;apply a6<;>intro a;exact dU;apply cj<;>intro a;simp only[aV]at a;exact dU;simp only[aV]at a;apply a6<;>intro a;exact dU;apply a6<;>intro a
 grind [bE,ad,a6,b7]
 grind [a6,bE,ad,b7]
 grind
 rintro⟨_,_⟩;refine ay (ada a8 _ a8 a8) λy i j=>?_;apply cj<;>intro a;exact dU;exact dU
theorem adl(i:Int)(q:dA)(a:QL q):T (WM N (i,q)) λ_=>True:=by
 obtain⟨b,c,d,e,f⟩:=a;unfold WM;refine ay (lr a8 _ a8) λy g h=>?_;apply cj<;>intro j;exact dU
 grind [ay,adk,bE,ad]
theorem YK(s:bP)(b:aa)(n:Int)(f:Int->V (Int×Int))(m:Int)(g:s.length<=1048576)(h0:0<=n)(h:n<=1048576)(c:∀i,0<=i->i<n->T (f i) λ_=>True):T (TU N (s,b,n,f,m)) λ_=>True:=by
 unfold TU;refine ay (lr a8 _ a8) λy d e=>?_;apply cj<;>intro a;exact dU;apply aw<;>intro a;exact dU;apply a6<;>intro a;exact dU;refine cI (λJ j=>?_) ?_;refine cN n λrec _ _ k l o=>?_;dsimp only;apply a6<;>intro a;refine ay (c _ a8 a8) λy d e=>?_;apply a6<;>intro a;exact dU;apply a6<;>intro a;exact dU
 grind [a6,ad,b7]
 grind
 grind [ad]
theorem adm(i:Int)(x:eV)(h0:0<=i)(a:i<x.cells.length):T (WO N (i,x)) λ_=>True:=by grind [WO,aL,ad]
theorem adn(i:Int)(x:cR)(h0:0<=i)(a:i<x.eU.length):T (WT N (i,x)) λ_=>True:=by grind [WT,aL,ad]
theorem ado(i:Int)(x:eV)(l:dc)(a:oG l)(h0:0<=i)(b:i<l.eL.length)(c:x.au.length<=1048576)(d:x.cells.length<=1048576):T (WQ N (i,x,l)) λ_=>True:=by
 have:=a.eL;unfold WQ;refine bO ?_ ?_
 grind
 refine ay (acW a8 _ _ ?_ ?_) λy e f=>?_
 grind
 grind [ek,adf]
 grind [ay,YK,ek,adm,ad]
theorem adp(i:Int)(x:cR)(l:dc)(a:oG l)(h0:0<=i)(b:i<l.c7.length)(c:x.au.length<=1048576)(d:x.eU.length<=1048576):T (WU N (i,x,l)) λ_=>True:=by
 have:=a.c7;unfold WU;refine bO ?_ ?_
 grind
 refine ay (acY a8 _ _ ?_ ?_) λy e f=>?_
 grind
 grind [ek,adg]
 grind [ay,YK,ek,adn,ad]
theorem ah2(l:dc)(f:oG l):T (C66 N l) λr=>match r with
  |.ok _=>∀c∈l.bC,c.name≠[]|.error e=>e.f.ka≠0:=by
 obtain⟨m,n,o,q,h,s,t,u,v,w,z,A,B,C,D,E⟩:=id f;unfold C66;refine ay (lr a8 _ a8) λy a b=>ay (Pd a8 _ _) λy a b=>pI (λy a=>?_) λy a=>?_;refine ad ?_;dsimp only;rotate_left;refine ay (Pd a8 _ _) λy a b=>pI (λy a=>?_) λy a=>?_;refine ad ?_;dsimp only;rotate_left;refine ay (ac0 a8 _ _ _ _ a8 ?_) λy a b=>?_
 grind [ek,adh]
 dsimp only at b;refine pI (λy a=>?_) λy a=>?_;refine ad ?_;dsimp only;rotate_left;refine ay (ac1 a8 _ _ _ _ a8 ?_) λy a b=>?_
 grind [ek,YJ]
 dsimp only at b;refine pI (λy a=>?_) λy a=>?_;refine ad ?_;dsimp only;rotate_left;refine ay (ac2 a8 _ _ _ _ a8 ?_) λy a b=>?_
 grind [ek,adj]
 dsimp only at b;refine pI (λy a=>?_) λy a=>?_;refine ad ?_;dsimp only;rotate_left;refine ay (ac3 a8 _ _ _ _ a8 ?_) λy a b=>?_
 grind [ek,adl]
 dsimp only at b;refine pI (λy a=>?_) λy a=>?_;refine ad ?_;dsimp only;rotate_left;refine ay (ac4 a8 _ _ _ _ a8 ?_) λy a b=>?_
 grind [ek,ado]
 dsimp only at b;refine pI (λy a=>?_) λy a=>?_;refine ad ?_;dsimp only;rotate_left;refine ay (ac5 a8 _ _ _ _ a8 ?_) λy a b=>?_
 grind [ek,adp]
 dsimp only at b;refine pI (λy a=>?_) λy a=>?_;refine ad ?_;dsimp only;rotate_left;refine ad ?_;dsimp only;intro x;intro x;rotate_left;iterate 2
  .rw[b]at a;split at a
   .cases a
   .cases a;simp
 iterate 6 (rw[a]at b;exact b)
 have d:∃y,pL l.bC (λ(x:Int×dQ)=>TQ N (x.1,x.2,l)) y/\y=Except.ok ():=⟨_,by assumption,by assumption⟩
 obtain⟨_,d,rfl⟩:=d;rename_i c;have g:=x;obtain⟨i,p,j,k,G⟩:=d c g;obtain⟨r,e,H⟩:=YJ hN i c l f j k (h c g)
 grind
theorem ah3(l:dc)(b:oG l):T (Bd N l) λr=>r.ka=0->∀c∈l.bC,c.name≠[]:=by
 unfold Bd;refine aB (ah2 hN l b) λr a=>?_;cases r with
 |error e=>exact ad λh=>absurd h a|ok u=>exact ad λ_=>a
end
end Go.Proofs.Mo
