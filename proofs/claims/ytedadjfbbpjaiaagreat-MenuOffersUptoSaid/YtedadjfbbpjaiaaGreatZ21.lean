import Derived.Test.YtedadjfbbpjaiaaGreatZ20
set_option linter.all false
set_option maxRecDepth 20000
noncomputable section
namespace Go.Proofs.Mo
open Go Go.Ev Go.X
open Go.IntKind renaming i64->Wk
def Bz(N:Nat):Int×Int×Int×Int×Int->Option (Option ia):=λ(a,b,c,d,e)=>some (some (ia.mk (Wk.wrap ((Wk.wrap (10*a))+b)) c d e))
abbrev K62(N:Nat):ca U:=⟨[.I,.I,.I,.I,.I],[.v (.ref (.struct 28))],none,.pure (Bz N)⟩
theorem G62(N:Nat):Holds 62 (K62 N):=gP N Tryz.f62 .leaf nl
def ach(N:Nat):(List bT)×(bT->Option Bool)->Option Int:=λ(b,c)=>aM (λ(_:Unit×Unit)=>some (-1)) λd=>aE (λe((a,_):Int×Unit)=>bif a<b.length then(aA b a).bind λf=>(c f).bind λg=>bif g then some a else e (Wk.wrap (a+1),())else d ((),())) N (0,())
abbrev ajO(N:Nat):ca U:=⟨[(.list (.struct 23)),(.fn (.struct 23) .bool)],[.v .I],none,.pure (ach N)⟩
theorem ajP(N:Nat):Holds 150 (ajO N):=gP N Tryz.f150 (.q (.J (.W [0,1,7] [(8,.val .I)]) .leaf)) nl
def F64(N:Nat):(List bT)×(bT->Option Bool)->Option Bool:=λ(a,b)=>(ach N (a,b)).bind λc=>some (decide (0<=c))
abbrev K64(N:Nat):ca U:=⟨[(.list (.struct 23)),(.fn (.struct 23) .bool)],[.v .bool],none,.pure (F64 N)⟩
theorem G64(N:Nat):Holds 64 (K64 N):=gP N Tryz.f64 .leaf (cn (ajP N) nl)
def F65(N:Nat):bT×bT->Option Bool:=λ(a,b)=>some (a.name==b.name)
abbrev K65(N:Nat):ca U:=⟨[(.struct 23),(.cell (.struct 23))],[.v .bool],none,.pure (F65 N)⟩
theorem G65(N:Nat):Holds 65 (K65 N):=gP N Tryz.f65 .leaf nl
def F32(N:Nat):(Option Nat)×(List bT)->Option (Option ia):=λ(r,a)=>bif 128<(a.length:Int)then(Bz N (128,0,0,0,4)).bind λe=>some e else aM (λ(_:Unit×Unit)=>aM (λ(_:Unit×Unit)=>some none) λf=>aE (λg((b,_):Int×Unit)=>bif b<a.length then(aA a b).bind λi=>(db (decide (0<=b)&&decide (b.toNat<=a.length))).bind λ_=>(F64 N (a.take b.toNat,λj=>F65 N (j,i))).bind λk=>bif k then(Bz N (b,0,0,0,40)).bind λl=>some l else g (Wk.wrap (b+1),())else f ((),())) N (0,())) λm=>aE (λn((d,_):Int×Unit)=>bif d<a.length then(aA a d).bind λo=>(F63 N o).bind λc=>bif !(c.err==0)then(Bz N (d,c.Z3,c.Z4,c.part,c.err)).bind λp=>some p else n (Wk.wrap (d+1),())else m ((),())) N (0,())
abbrev K32(N:Nat):ca U:=⟨[(.ptr 0),(.list (.struct 23))],[.v (.ref (.struct 28))],none,.pure (F32 N)⟩
theorem G32(N:Nat):Holds 32 (K32 N):=gP N Tryz.f32 (.q (.q (.seq (some ⟨false,[1],[],[],[]⟩) (.W [1,14,15] [(16,.val .I)]) (.J (.W [1,37,38] [(39,.val .I)]) .leaf)))) (cn (G62 N) (cn (G63 N) (cn (G64 N) (cn (G65 N) nl))))
def F66(N:Nat):(List bT)×(bT->Option (List cN))×((Int×Int×cN)->Hp->Option ((Option ia)×Hp))->Hp->Option ((Option ia)×Hp):=λ(d,i,j) h=>aM (λ((_,k):Unit×Hp)=>some (none,k)) λl=>aE (λm((a,e):Int×Hp)=>bif a<d.length then aM (λ((_,n):Unit×Hp)=>m (Wk.wrap (a+1),n)) λo=>(aA d a).bind λp=>(i p).bind λf=>aE (λr((b,g):Int×Hp)=>bif b<f.length then(aA f b).bind λs=>(j (a,b,s) g).bind λc=>bif !c.1.isNone then some (c.1,c.2)else r (Wk.wrap (b+1),c.2)else o ((),g)) N (0,e)else l ((),e)) N (0,h)
abbrev K66(N:Nat):ca U:=⟨[(.list (.struct 23)),(.fn (.struct 23) (.list (.struct 15))),(.rJ (.pair .I (.pair .I (.struct 15))) (.ref (.struct 28)))],[.v (.ref (.struct 28))],none,.st (F66 N)⟩
theorem G66(N:Nat):Holds 66 (K66 N):=gS N Tryz.f66 (.q (.seq (some ⟨true,[],[],[],[]⟩) (.q (.block (.loop ⟨true,[1,2,12,13],[(14,.val .I)],[],[]⟩ (.q (.q (.seq (some ⟨true,[1,2,12,13,14],[],[],[]⟩) (.block (.q (.q (.block (.loop ⟨true,[1,2,7,12,13,14,21,22],[(23,.val .I)],[],[]⟩ .leaf))))) .leaf)))))) .leaf)) nl
def F67(N:Nat):bT->Option (List cN):=λa=>some a.aQ
abbrev K67(N:Nat):ca U:=⟨[(.struct 23)],[.v (.list (.struct 15))],none,.pure (F67 N)⟩
theorem G67(N:Nat):Holds 67 (K67 N):=gP N Tryz.f67 .leaf nl
def F68(N:Nat):Int×Int×cN×(Option Nat)×(List bT)->Hp->Option ((Option ia)×Hp):=λ(f,l,a,b,r) h=>
 b.bind λs=>
 (h.gz[s]?).bind λt=>
 (dW h.mj t.uH).bind λu=>
 bif (u.length:Int)==128 then
  (Bz N (f,2,l,0,4)).bind λy=>
  some (y,h)
 else
  b.bind λz=>
  (h.gz[z]?).bind λb0=>
  (dW h.mj b0.uH).bind λc0=>
  bif !((aZ eqStr c0 a.name).getD none).isNone then
   (Bz N (f,2,l,0,40)).bind λd0=>
   some (d0,h)
  else
   b.bind λg0=>
   (h.gz[g0]?).bind λj0=>
   (aA r f).bind λk0=>
   b.bind λm0=>
   (h.gz[m0]?).bind λn0=>
   (dW h.mj n0.uH).bind λp0=>
   cP {h with By:=h.By++[[]]} λg=>
   cP {g with eQ:=g.eQ++[Entry.mk a k0.name none (p0.length:Int) (some h.By.length) none none [] [] false false]} λi=>
   j0.uH.bind λn=>
   (i.mj[n]?).bind λq0=>
   cP {i with mj:=i.mj.set n (jy eqStr q0 a.name (some g.eQ.length))} λd=>
   b.bind λr0=>
   (d.gz[r0]?).bind λo=>
   (jw d.Af o.names).bind λe=>
   (db (fits 16 (e.length+[a.name].length) 140737488355328)).bind λ_=>
   cP {d with Af:=nZ d.Af o.names} λj=>
   b.bind λp=>
   (db (!(e++[a.name]).isEmpty)).bind λ_=>
   cP {j with Af:=j.Af++[some (e++[a.name])]} λk=>
   (k.gz[p]?).bind λc=>
   cP {k with gz:=k.gz.set p (Fa.mk c.uH (some (j.Af.length,(e++[a.name]).length)) (Bw.mk (jT.mk) (Bv.mk (jU.mk) c.ready.done.v) (tV.mk (jT.mk) c.ready.m.mu)) c.bits (Lt.mk (jU.mk) (p9.mk) c.asked.v))} λs0=>
   some (none,s0)
abbrev K68(N:Nat):ca U:=⟨[.I,.I,(.struct 15),(.cell (.ptr 0)),(.cell (.list (.struct 23)))],[.v (.ref (.struct 28))],none,.st (F68 N)⟩
theorem G68(N:Nat):Holds 68 (K68 N):=gS N Tryz.f68 .leaf (cn (G62 N) nl) [(46,3),(48,1)]
def F33(N:Nat):(Option Nat)×(List bT)->Hp->Option ((Option ia)×Hp):=λ(c,a) h=>(F66 N (a,λd=>F67 N d,λ(e,f,g) i=>F68 N (e,f,g,c,a) i) h).bind λb=>some (b.1,b.2)
abbrev K33(N:Nat):ca U:=⟨[(.ptr 0),(.list (.struct 23))],[.v (.ref (.struct 28))],none,.st (F33 N)⟩
theorem G33(N:Nat):Holds 33 (K33 N):=gS N Tryz.f33 .leaf (cn (G66 N) (cn (G67 N) (cn (G68 N) nl)))
def F69(N:Nat):Int×Int×cN×(Option Nat)->Hp->Option ((Option ia)×Hp):=λ(c,d,a,b) h=>bif !(a.cQ==[])then b.bind λl=>(h.gz[l]?).bind λm=>(dW h.mj m.uH).bind λn=>bif ((aZ eqStr n a.cQ).getD none).isNone then(Bz N (c,2,d,0,42)).bind λo=>some (o,h)else b.bind λp=>(h.gz[p]?).bind λr=>(dW h.mj r.uH).bind λs=>((aZ eqStr s a.name).getD none).bind λt=>(h.eQ[t]?).bind λu=>aM (λ(_:Unit×Unit)=>some (none,h)) λg=>aE (λv(((e,i),_):((Option Nat)×Int)×Unit)=>bif !e.isNone then b.bind λy=>(h.gz[y]?).bind λz=>(dW h.mj z.uH).bind λb0=>bif i<b0.length then e.bind λc0=>(h.eQ[c0]?).bind λd0=>bif d0.ab.name==a.name then(Bz N (c,2,d,0,43)).bind λg0=>some (g0,h)else e.bind λj0=>(h.eQ[j0]?).bind λk0=>v ((k0.up,Wk.wrap (i+1)),())else g ((),())else g ((),())) N ((u.up,0),())else b.bind λm0=>(h.gz[m0]?).bind λn0=>(dW h.mj n0.uH).bind λp0=>((aZ eqStr p0 a.name).getD none).bind λq0=>(h.eQ[q0]?).bind λr0=>aM (λ(_:Unit×Unit)=>some (none,h)) λj=>aE (λs0(((f,k),_):((Option Nat)×Int)×Unit)=>bif !f.isNone then b.bind λt0=>(h.gz[t0]?).bind λv0=>(dW h.mj v0.uH).bind λw0=>bif k<w0.length then f.bind λx0=>(h.eQ[x0]?).bind λy0=>bif y0.ab.name==a.name then(Bz N (c,2,d,0,43)).bind λz0=>some (z0,h)else f.bind λb1=>(h.eQ[b1]?).bind λc1=>s0 ((c1.up,Wk.wrap (k+1)),())else j ((),())else j ((),())) N ((r0.up,0),())
abbrev K69(N:Nat):ca U:=⟨[.I,.I,(.struct 15),(.cell (.ptr 0))],[.v (.ref (.struct 28))],none,.st (F69 N)⟩
theorem G69(N:Nat):Holds 69 (K69 N):=gS N Tryz.f69 (.q (.q (.q (.J (.q (.block (.loop ⟨false,[0,1,3,6],[(8,.val (.ptr 1)),(9,.val .I)],[6],[]⟩ .leaf))) .leaf)))) (cn (G62 N) nl)
def F34(N:Nat):(Option Nat)×(List bT)->Hp->Option ((Option ia)×Hp):=λ(c,i) h=>
 c.bind λj=>
 (h.gz[j]?).bind λk=>
 k.uH.bind λl=>
 (h.mj[l]?).bind λd=>
 m6 (λ(e:bE×(Option Nat))((_,b):Unit×Hp) m=>
  c.bind λn=>
  (b.gz[n]?).bind λo=>
  e.2.bind λp=>
  (b.eQ[p]?).bind λr=>
  (dW b.mj o.uH).bind λs=>
  e.2.bind λf=>
  (b.eQ[f]?).bind λa=>
  cP {b with eQ:=b.eQ.set f (Entry.mk a.ab a.iw ((aZ eqStr s r.ab.cQ).getD none) a.number a.scopes a.rules a.equations a.cells a.pieces a.sq a.oe)} λt=>
  m ((),t)) (λ((_,b):Unit×Hp)=>
  (F66 N (i,λu=>F67 N u,λ(v,y,z) b0=>F69 N (v,y,z,c) b0) b).bind λg=>
  some (g.1,g.2)) d.length d ((),h)
abbrev K34(N:Nat):ca U:=⟨[(.ptr 0),(.list (.struct 23))],[.v (.ref (.struct 28))],none,.st (F34 N)⟩
theorem G34(N:Nat):Holds 34 (K34 N):=gM N Tryz.f34 (.q (.seq none (.Ie ⟨true,[1,2,11],[],[2],[]⟩ .leaf) .leaf)) (cn (G66 N) (cn (G67 N) (cn (G69 N) nl)))
def aci(N:Nat)(rec:Option Nat->Hp->Option ((List (Option Nat))×Hp)):Option Nat->Hp->Option ((List (Option Nat))×Hp):=λa h=>bif a.isNone then some ([],h)else a.bind λc=>(h.eQ[c]?).bind λd=>(rec d.up h).bind λb=>(db (fits 8 (b.1.length+[a].length) 140737488355328)).bind λ_=>some ((b.1++[a]),b.2)
def NZ(N:Nat):Nat->Option Nat->Hp->Option ((List (Option Nat))×Hp)
 |0=>λ_ _=>none|n+1=>aci N (NZ N n)
def F71(N:Nat):Option Nat->Hp->Option ((List (Option Nat))×Hp):=NZ N N
abbrev afE(rec:Option Nat->Hp->Option ((List (Option Nat))×Hp)):ca U:=⟨[(.ptr 1)],[.own (.ptr 1) 135],none,.st rec⟩
abbrev K71(N:Nat):ca U:=⟨[(.ptr 1)],[.own (.ptr 1) 135],none,.st (F71 N)⟩
theorem afF(N:Nat)(E:Env)(hE:∀i,E.ro i=none):∀n,kZ PP E TT (BB.ctx 0 []) 71 (afE (NZ N n))
 |0=>U1 (by kernel_rfl)|n+1=>have ih:=afF N E hE n
  Z1 SS hE Tryz.f71 (afE (NZ N (n+1))) N [] .leaf (.cons ih .nil) (NZ N (n+1)) (by kernel_rfl) (by kernel_rfl) (by kernel_rfl) λ_ _=>by kernel_rfl
theorem G71(N:Nat):Holds 71 (K71 N):=λE hE=>afF N E hE N
def F70(N:Nat):Int×Int×cN×(Option Nat)×(Option Nat)->Hp->Option ((Option ia)×Hp):=λ(e,f,d,r,g1) h=>
 aM (λ(((j4,k4,m4,t,k,l),a):(bE×bE×Bool×(List dR)×(List cg)×(List fj))×Hp)=>
  aM (λ((s0,_):(List bE)×Unit)=>
   aM (λ((t0,_):(List bE)×Unit)=>
    aM (λ((v0,_):(List bE)×Unit)=>
     aM (λ(_:Unit×Unit)=>
      g1.bind λw0=>
      (a.all[w0]?).bind λj1=>
      cP {a with all:=a.all.set w0 (jy eqStr j1 d.name (cN.mk d.name d.cQ d.ir t k l))} λk1=>
      some (none,k1)) λm1=>
     aE (λn1(((u,c),_):(Int×Int)×Unit)=>
      bif c<([s0,t0,v0].length:Int)then
       aM (λ((p1,_):Int×Unit)=>n1 ((p1,Wk.wrap (c+1)),())) λv=>
       (aA [s0,t0,v0] c).bind λb=>
       bif gK c 0 then
        aE (λq1(((n,g),_):(Int×Int)×Unit)=>
         bif g<b.length then
          bif 32<=g then
           (Bz N (e,2,f,Wk.wrap (n+1),4)).bind λr1=>
           some (r1,a)
          else
           (db (decide (0<=g)&&decide (g.toNat<=b.length))).bind λ_=>
           (aA b g).bind λs1=>
           (F72 N (b.take g.toNat,s1)).bind λt1=>
           bif t1 then
            (Bz N (e,2,f,Wk.wrap (n+1),40)).bind λv1=>
            some (v1,a)
           else
            aM (λ((w1,_):bE×Unit)=>
             r.bind λx1=>
             (a.gz[x1]?).bind λy1=>
             (dW a.mj y1.uH).bind λz1=>
             bif ((aZ eqStr z1 w1).getD none).isNone then
              (Bz N (e,2,f,Wk.wrap (n+1),42)).bind λb2=>
              some (b2,a)
             else q1 ((Wk.wrap (n+1),Wk.wrap (g+1)),())) λy=>
            bif c==1 then
             (aA k g).bind λc2=>
             y (c2.ab,())
            else
             bif c==2 then
              (aA l g).bind λd2=>
              y (d2.ab,())
             else y (d.name,())
         else v (n,())) N ((u,Wk.wrap ((b.length:Int)-(d.aW.length:Int))),())
       else
       bif gK c 1 then
        aE (λg2(((o,i),_):(Int×Int)×Unit)=>
         bif i<b.length then
          bif 32<=i then
           (Bz N (e,2,f,Wk.wrap (o+1),4)).bind λj2=>
           some (j2,a)
          else
           (db (decide (0<=i)&&decide (i.toNat<=b.length))).bind λ_=>
           (aA b i).bind λk2=>
           (F72 N (b.take i.toNat,k2)).bind λm2=>
           bif m2 then
            (Bz N (e,2,f,Wk.wrap (o+1),40)).bind λn2=>
            some (n2,a)
           else
            aM (λ((p2,_):bE×Unit)=>
             r.bind λq2=>
             (a.gz[q2]?).bind λr2=>
             (dW a.mj r2.uH).bind λs2=>
             bif ((aZ eqStr s2 p2).getD none).isNone then
              (Bz N (e,2,f,Wk.wrap (o+1),42)).bind λt2=>
              some (t2,a)
             else g2 ((Wk.wrap (o+1),Wk.wrap (i+1)),())) λz=>
            bif c==1 then
             (aA k i).bind λv2=>
             z (v2.ab,())
            else
             bif c==2 then
              (aA l i).bind λw2=>
              z (w2.ab,())
             else z (d.name,())
         else v (o,())) N ((u,Wk.wrap ((b.length:Int)-(d.kids.length:Int))),())
       else
       bif gK c 2 then
        aE (λx2(((p,j),_):(Int×Int)×Unit)=>
         bif j<b.length then
          bif 32<=j then
           (Bz N (e,2,f,Wk.wrap (p+1),4)).bind λy2=>
           some (y2,a)
          else
           (db (decide (0<=j)&&decide (j.toNat<=b.length))).bind λ_=>
           (aA b j).bind λz2=>
           (F72 N (b.take j.toNat,z2)).bind λb3=>
           bif b3 then
            (Bz N (e,2,f,Wk.wrap (p+1),40)).bind λc3=>
            some (c3,a)
           else
            aM (λ((d3,_):bE×Unit)=>
             r.bind λg3=>
             (a.gz[g3]?).bind λj3=>
             (dW a.mj j3.uH).bind λk3=>
             bif ((aZ eqStr k3 d3).getD none).isNone then
              (Bz N (e,2,f,Wk.wrap (p+1),42)).bind λm3=>
              some (m3,a)
             else x2 ((Wk.wrap (p+1),Wk.wrap (j+1)),())) λb0=>
            bif c==1 then
             (aA k j).bind λn3=>
             b0 (n3.ab,())
            else
             bif c==2 then
              (aA l j).bind λp3=>
              b0 (p3.ab,())
             else b0 (d.name,())
         else v (p,())) N ((u,Wk.wrap ((b.length:Int)-(d.refs.length:Int))),())
       else
       none
      else m1 ((),())) N ((0,0),())) λq3=>
    aE (λr3(((c0,d0),_):((List bE)×Int)×Unit)=>
     bif d0<l.length then
      (aA l d0).bind λx0=>
      (db (fits 16 (c0.length+[x0.role].length) 140737488355328)).bind λ_=>
      r3 ((c0++[x0.role],Wk.wrap (d0+1)),())
     else q3 (c0,())) N (([],0),())) λs3=>
   aE (λt3(((g0,j0),_):((List bE)×Int)×Unit)=>
    bif j0<k.length then
     (aA k j0).bind λy0=>
     (db (fits 16 (g0.length+[y0.role].length) 140737488355328)).bind λ_=>
     t3 ((g0++[y0.role],Wk.wrap (j0+1)),())
    else s3 (g0,())) N (([],0),())) λv3=>
  aE (λw3(((k0,m0),_):((List bE)×Int)×Unit)=>
   bif m0<t.length then
    (aA t m0).bind λz0=>
    (db (fits 16 (k0.length+[z0.name].length) 140737488355328)).bind λ_=>
    w3 ((k0++[z0.name],Wk.wrap (m0+1)),())
   else v3 (k0,())) N (([],0),())) λx3=>
 r.bind λy3=>
 (h.gz[y3]?).bind λz3=>
 (dW h.mj z3.uH).bind λb4=>
 (F71 N ((aZ eqStr b4 d.name).getD none) h).bind λs=>
 aE (λc4(((n0,b1,c1,d1,p0,q0,r0),_):(Int×bE×bE×Bool×(List dR)×(List cg)×(List fj))×Unit)=>
  bif n0<s.1.length then
   (aA s.1 n0).bind λd4=>
   d4.bind λg4=>
   (s.2.eQ[g4]?).bind λm=>
   (db (fits 24 (p0.length+m.ab.aW.length) 140737488355328)).bind λ_=>
   (db (fits 48 (q0.length+m.ab.kids.length) 140737488355328)).bind λ_=>
   (db (fits 40 (r0.length+m.ab.refs.length) 140737488355328)).bind λ_=>
   c4 ((Wk.wrap (n0+1),b1,c1,d1,p0++m.ab.aW,q0++m.ab.kids,r0++m.ab.refs),())
  else x3 ((b1,c1,d1,p0,q0,r0),s.2)) N ((0,[],[],false,[],[],[]),())
abbrev K70(N:Nat):ca U:=⟨[.I,.I,(.struct 15),(.cell (.ptr 0)),(.cell (.mp 7))],[.v (.ref (.struct 28))],none,.st (F70 N)⟩
theorem G70(N:Nat):Holds 70 (K70 N):=gS N Tryz.f70 (.q (.q (.q (.seq (some ⟨true,[0,1,3,4,7,9,10,11,12],[],[7],[(12,.cells (.struct 15) [.val .str,.val .str,.val .bool,.own 501203 (.struct 12) 146,.own 501204 (.struct 13) 65,.own 501205 (.struct 14) 148])]⟩) (.q (.block (.loop ⟨false,[0,1,3,4,7,9,10,11,12,35,36],[(37,.val .I)],[7,35],[(12,.cells (.struct 15) [.val .str,.val .str,.val .bool,.own 501203 (.struct 12) 146,.own 501204 (.struct 13) 65,.own 501205 (.struct 14) 148])]⟩ .leaf))) (.seq (some ⟨false,[0,1,3,4,7,10,11,12],[(9,.own 9 .str 9)],[7,12,501203,501204,501205],[]⟩) (.q (.block (.loop ⟨false,[0,1,3,4,7,10,11,12,65,66],[(9,.own 9 .str 9),(67,.val .I)],[7,12,501203,501204,501205],[]⟩ .leaf))) (.seq (some ⟨false,[0,1,3,4,7,9,11,12],[(10,.own 10 .str 9)],[7,9,12,501203,501204,501205],[]⟩) (.q (.block (.loop ⟨false,[0,1,3,4,7,9,11,12,78,79],[(10,.own 10 .str 9),(80,.val .I)],[7,9,12,501203,501204,501205],[]⟩ .leaf))) (.seq (some ⟨false,[0,1,3,4,7,9,10,12],[(11,.own 11 .str 9)],[7,9,10,12,501203,501204,501205],[]⟩) (.q (.block (.loop ⟨false,[0,1,3,4,7,9,10,12,91,92],[(11,.own 11 .str 9),(93,.val .I)],[7,9,10,12,501203,501204,501205],[]⟩ .leaf))) (.q (.seq (some ⟨false,[4,7,12],[],[7,12,501203,501204,501205],[]⟩) (.q (.block (.loop ⟨false,[0,1,3,4,7,12,106,107],[(22,.val .I),(108,.val .I)],[7,12,106,501203,501204,501205],[]⟩ (.q (.q (.seq (some ⟨false,[0,1,3,4,7,12,106,107,108],[(22,.val .I)],[7,12,106,501203,501204,501205],[]⟩) (.block (.q (.q (.q (.block (.loop ⟨false,[0,1,3,4,7,12,23,24,106,107,108],[(22,.val .I),(26,.val .I)],[7,12,106,501203,501204,501205],[]⟩ (.q (.seq none (.block (.q (.q (.q (.q (.seq (some ⟨false,[0,1,3,4,7,12,22,23,24,26,106,107,108],[(27,.val .str)],[7,12,106,501203,501204,501205],[]⟩) .leaf .leaf)))))) .leaf)))))))) .leaf)))))) .leaf))))))))) (cn (G62 N) (cn (G71 N) (cn (G72 N) nl)))
def F35(N:Nat):(Option Nat)×(List bT)->Hp->Option ((Option ia)×Hp):=λ(d,i) h=>
 cP {h with all:=h.all++[[]]} λj=>
 (F66 N (i,λk=>F67 N k,λ(l,m,n) o=>F70 N (l,m,n,d,some h.all.length) o) j).bind λc=>
 (some h.all.length).bind λp=>
 (c.2.all[p]?).bind λe=>
 m6 (λ(f:bE×cN)((_,b):Unit×Hp) r=>
  d.bind λs=>
  (b.gz[s]?).bind λt=>
  (dW b.mj t.uH).bind λu=>
  ((aZ eqStr u f.1).getD none).bind λg=>
  (b.eQ[g]?).bind λa=>
  cP {b with eQ:=b.eQ.set g (Entry.mk f.2 a.iw a.up a.number a.scopes a.rules a.equations a.cells a.pieces a.sq a.oe)} λv=>
  r ((),v)) (λ((_,b):Unit×Hp)=>
  some (c.1,b)) e.length e ((),c.2)
abbrev K35(N:Nat):ca U:=⟨[(.ptr 0),(.list (.struct 23))],[.v (.ref (.struct 28))],none,.st (F35 N)⟩
theorem G35(N:Nat):Holds 35 (K35 N):=gM N Tryz.f35 (.q (.q (.q (.seq none (.Ie ⟨true,[2,6,14],[],[],[]⟩ .leaf) .leaf)))) (cn (G66 N) (cn (G67 N) (cn (G70 N) nl))) [(9,7)]
def F74(N:Nat):(List bT)×(bT->Option (List rm))×((Int×Int×rm)->Hp->Option ((Option ia)×Hp))->Hp->Option ((Option ia)×Hp):=λ(d,i,j) h=>aM (λ((_,k):Unit×Hp)=>some (none,k)) λl=>aE (λm((a,e):Int×Hp)=>bif a<d.length then aM (λ((_,n):Unit×Hp)=>m (Wk.wrap (a+1),n)) λo=>(aA d a).bind λp=>(i p).bind λf=>aE (λr((b,g):Int×Hp)=>bif b<f.length then(aA f b).bind λs=>(j (a,b,s) g).bind λc=>bif !c.1.isNone then some (c.1,c.2)else r (Wk.wrap (b+1),c.2)else o ((),g)) N (0,e)else l ((),e)) N (0,h)
abbrev K74(N:Nat):ca U:=⟨[(.list (.struct 23)),(.fn (.struct 23) (.list (.struct 19))),(.rJ (.pair .I (.pair .I (.struct 19))) (.ref (.struct 28)))],[.v (.ref (.struct 28))],none,.st (F74 N)⟩
theorem G74(N:Nat):Holds 74 (K74 N):=gS N Tryz.f74 (.q (.seq (some ⟨true,[],[],[],[]⟩) (.q (.block (.loop ⟨true,[1,2,12,13],[(14,.val .I)],[],[]⟩ (.q (.q (.seq (some ⟨true,[1,2,12,13,14],[],[],[]⟩) (.block (.q (.q (.block (.loop ⟨true,[1,2,7,12,13,14,21,22],[(23,.val .I)],[],[]⟩ .leaf))))) .leaf)))))) .leaf)) nl
def F75(N:Nat):bT->Option (List rm):=λa=>some a.rules
abbrev K75(N:Nat):ca U:=⟨[(.struct 23)],[.v (.list (.struct 19))],none,.pure (F75 N)⟩
theorem G75(N:Nat):Holds 75 (K75 N):=gP N Tryz.f75 .leaf nl
def F77(N:Nat):Int×Int×Int×Int->Option (Option ia):=λ(a,b,c,d)=>bif a==0 then some none else(Bz N (b,c,d,0,a)).bind λe=>some e
abbrev K77(N:Nat):ca U:=⟨[.I,.I,.I,.I],[.v (.ref (.struct 28))],none,.pure (F77 N)⟩
theorem G77(N:Nat):Holds 77 (K77 N):=gP N Tryz.f77 .leaf (cn (G62 N) nl)
def acj(N:Nat):rm×rm->Option Bool:=λ(a,b)=>some (a.name==b.name)
abbrev ajQ(N:Nat):ca U:=⟨[(.struct 19),(.cell (.struct 19))],[.v .bool],none,.pure (acj N)⟩
theorem ajR(N:Nat):Holds 152 (ajQ N):=gP N Tryz.f152 .leaf nl
def ack(N:Nat):fj×rm->Option Bool:=λ(a,b)=>some (a.role==b.name)
abbrev ajS(N:Nat):ca U:=⟨[(.struct 14),(.cell (.struct 19))],[.v .bool],none,.pure (ack N)⟩
theorem ajT(N:Nat):Holds 154 (ajS N):=gP N Tryz.f154 .leaf nl
def F78(N:Nat):(Option Nat)×rm->Hp->Option (Int×Hp):=λ(k,a) h=>
 k.bind λl=>
 (h.gz[l]?).bind λm=>
 (dW h.mj m.uH).bind λc=>
 bif ((aZ eqStr c a.ab).getD none).isNone then some (42,h)
 else
  bif !a.scope then
   ((aZ eqStr c a.ab).getD none).bind λn=>
   (h.eQ[n]?).bind λo=>
   (jw h.I7 o.rules).bind λp=>
   (Vf N (p,λr=>acj N (r,a))).bind λs=>
   bif s then some (40,h)
   else
    ((aZ eqStr c a.ab).getD none).bind λt=>
    (h.eQ[t]?).bind λg=>
    (jw h.I7 g.rules).bind λd=>
    (db (fits 56 (d.length+[a].length) 140737488355328)).bind λ_=>
    cP {h with I7:=nZ h.I7 g.rules} λe=>
    ((aZ eqStr c a.ab).getD none).bind λi=>
    (db (!(d++[a]).isEmpty)).bind λ_=>
    cP {e with I7:=e.I7++[some (d++[a])]} λf=>
    (f.eQ[i]?).bind λb=>
    cP {f with eQ:=f.eQ.set i (Entry.mk b.ab b.iw b.up b.number b.scopes (some (e.I7.length,(d++[a]).length)) b.equations b.cells b.pieces b.sq b.oe)} λu=>
    some (0,u)
  else
   ((aZ eqStr c a.ab).getD none).bind λv=>
   (h.eQ[v]?).bind λy=>
   (RM N (y.ab.refs,λz=>ack N (z,a))).bind λb0=>
   bif !b0 then some (42,h)
   else
    ((aZ eqStr c a.ab).getD none).bind λc0=>
    (h.eQ[c0]?).bind λd0=>
    (dW h.By d0.scopes).bind λg0=>
    bif (aZ eqStr g0 a.name).isSome then some (40,h)
    else
     ((aZ eqStr c a.ab).getD none).bind λj0=>
     (h.eQ[j0]?).bind λk0=>
     k0.scopes.bind λj=>
     (h.By[j]?).bind λm0=>
     cP {h with By:=h.By.set j (jy eqStr m0 a.name (Em.mk a.expr))} λn0=>
     some (0,n0)
abbrev K78(N:Nat):ca U:=⟨[(.ptr 0),(.struct 19)],[.v .I],none,.st (F78 N)⟩
theorem G78(N:Nat):Holds 78 (K78 N):=gS N Tryz.f78 .leaf (cn (afq N) (cn (ajR N) (cn (afn N) (cn (ajT N) nl))))
def F76(N:Nat):Int×Int×rm×(Option Nat)×Int->Hp->Option ((Option ia)×Hp):=λ(g,b,c,d,e) h=>(F78 N (d,c) h).bind λa=>(F77 N (a.1,e,3,b)).bind λf=>some (f,a.2)
abbrev K76(N:Nat):ca U:=⟨[.I,.I,(.struct 19),(.cell (.ptr 0)),(.cell .I)],[.v (.ref (.struct 28))],none,.st (F76 N)⟩
theorem G76(N:Nat):Holds 76 (K76 N):=gS N Tryz.f76 .leaf (cn (G77 N) (cn (G78 N) nl))
def F73(N:Nat):(List bT)×(Option Nat)×Int->Hp->Option ((Option ia)×Hp):=λ(c,d,a) h=>(F74 N (c,λa=>F75 N a,λ(e,f,g) i=>F76 N (e,f,g,d,a) i) h).bind λb=>some (b.1,b.2)
abbrev K73(N:Nat):ca U:=⟨[(.cell (.list (.struct 23))),(.cell (.ptr 0)),(.cell .I)],[.v (.ref (.struct 28))],none,.st (F73 N)⟩
theorem G73(N:Nat):Holds 73 (K73 N):=gS N Tryz.f73 .leaf (cn (G74 N) (cn (G75 N) (cn (G76 N) nl)))
def F80(N:Nat):(List bT)×(bT->Option (List cC))×((Int×Int×cC)->Hp->Option ((Option ia)×Hp))->Hp->Option ((Option ia)×Hp):=λ(d,i,j) h=>aM (λ((_,k):Unit×Hp)=>some (none,k)) λl=>aE (λm((a,e):Int×Hp)=>bif a<d.length then aM (λ((_,n):Unit×Hp)=>m (Wk.wrap (a+1),n)) λo=>(aA d a).bind λp=>(i p).bind λf=>aE (λr((b,g):Int×Hp)=>bif b<f.length then(aA f b).bind λs=>(j (a,b,s) g).bind λc=>bif !c.1.isNone then some (c.1,c.2)else r (Wk.wrap (b+1),c.2)else o ((),g)) N (0,e)else l ((),e)) N (0,h)
abbrev K80(N:Nat):ca U:=⟨[(.list (.struct 23)),(.fn (.struct 23) (.list (.struct 20))),(.rJ (.pair .I (.pair .I (.struct 20))) (.ref (.struct 28)))],[.v (.ref (.struct 28))],none,.st (F80 N)⟩
theorem G80(N:Nat):Holds 80 (K80 N):=gS N Tryz.f80 (.q (.seq (some ⟨true,[],[],[],[]⟩) (.q (.block (.loop ⟨true,[1,2,12,13],[(14,.val .I)],[],[]⟩ (.q (.q (.seq (some ⟨true,[1,2,12,13,14],[],[],[]⟩) (.block (.q (.q (.block (.loop ⟨true,[1,2,7,12,13,14,21,22],[(23,.val .I)],[],[]⟩ .leaf))))) .leaf)))))) .leaf)) nl
def F81(N:Nat):bT->Option (List cC):=λa=>some a.equations
abbrev K81(N:Nat):ca U:=⟨[(.struct 23)],[.v (.list (.struct 20))],none,.pure (F81 N)⟩
theorem G81(N:Nat):Holds 81 (K81 N):=gP N Tryz.f81 .leaf nl
def acm(N:Nat):List Int->Option (List Int):=λa=>bif a.isEmpty then both (some []) ((db (fits 8 (0+a.length) 140737488355328)).bind λ_=>some (([]:List _)++a))else(db (fits 8 (0+a.length) 140737488355328)).bind λ_=>some (([]:List _)++a)
abbrev ajU(N:Nat):ca U:=⟨[(.list .I)],[.own .I 3],none,.pure (acm N)⟩
theorem ajV(N:Nat):Holds 192 (ajU N):=gP N Tryz.f192 .leaf nl
def Vs(N:Nat):List l7->Option (List l7):=λd=>aM (λ((f,_):(List l7)×Unit)=>some f) λg=>aE (λi(((b,c),_):((List l7)×Int)×Unit)=>bif c<d.length then(aA d c).bind λa=>(acm N a.args).bind λe=>(db (fits 56 (b.length+[l7.mk a.kind a.name a.num e].length) 140737488355328)).bind λ_=>i ((b++[l7.mk a.kind a.name a.num e],Wk.wrap (c+1)),())else g (b,())) N (([],0),())
abbrev ajW(N:Nat):ca U:=⟨[(.list (.struct 1))],[.own (.struct 1) 276],none,.pure (Vs N)⟩
theorem ajX(N:Nat):Holds 155 (ajW N):=gP N Tryz.f155 (.q (.q (.seq (some ⟨false,[],[(3,.own 3 (.struct 1) 276)],[],[]⟩) (.W [6,7] [(3,.own 3 (.struct 1) 276),(8,.val .I)]) .leaf))) (cn (ajV N) nl)
def F83(N:Nat):cC->Option cC:=λa=>(Vs N a.left).bind λb=>(Vs N a.right).bind λc=>some (cC.mk a.ab b c)
abbrev K83(N:Nat):ca U:=⟨[(.struct 20)],[.v (.struct 20)],none,.pure (F83 N)⟩
theorem G83(N:Nat):Holds 83 (K83 N):=gP N Tryz.f83 .leaf (cn (ajX N) nl)
def F82(N:Nat):Int×Int×cC×(Option Nat)×Int->Hp->Option ((Option ia)×Hp):=λ(t,k,b,l,m) h=>
 l.bind λn=>
 (h.gz[n]?).bind λo=>
 (dW h.mj o.uH).bind λe=>
 bif ((aZ eqStr e b.ab).getD none).isNone then
  (Bz N (m,4,k,0,42)).bind λp=>
  some (p,h)
 else
  ((aZ eqStr e b.ab).getD none).bind λr=>
  (h.eQ[r]?).bind λi=>
  (F83 N b).bind λc=>
  (jw h.eqs i.equations).bind λd=>
  (db (fits 64 (d.length+[c].length) 140737488355328)).bind λ_=>
  cP {h with eqs:=nZ h.eqs i.equations} λf=>
  ((aZ eqStr e b.ab).getD none).bind λj=>
  (db (!(d++[c]).isEmpty)).bind λ_=>
  cP {f with eqs:=f.eqs++[some (d++[c])]} λg=>
  (g.eQ[j]?).bind λa=>
  cP {g with eQ:=g.eQ.set j (Entry.mk a.ab a.iw a.up a.number a.scopes a.rules (some (f.eqs.length,(d++[c]).length)) a.cells a.pieces a.sq a.oe)} λs=>
  some (none,s)
abbrev K82(N:Nat):ca U:=⟨[.I,.I,(.struct 20),(.cell (.ptr 0)),(.cell .I)],[.v (.ref (.struct 28))],none,.st (F82 N)⟩
theorem G82(N:Nat):Holds 82 (K82 N):=gS N Tryz.f82 .leaf (cn (G62 N) (cn (G83 N) nl))
def F79(N:Nat):(List bT)×(Option Nat)×Int->Hp->Option ((Option ia)×Hp):=λ(c,d,a) h=>(F80 N (c,λa=>F81 N a,λ(e,f,g) i=>F82 N (e,f,g,d,a) i) h).bind λb=>some (b.1,b.2)
abbrev K79(N:Nat):ca U:=⟨[(.cell (.list (.struct 23))),(.cell (.ptr 0)),(.cell .I)],[.v (.ref (.struct 28))],none,.st (F79 N)⟩
theorem G79(N:Nat):Holds 79 (K79 N):=gS N Tryz.f79 .leaf (cn (G80 N) (cn (G81 N) (cn (G82 N) nl)))
def F85(N:Nat):(List bT)×(bT->Option (List dw))×((Int×Int×dw)->Hp->Option ((Option ia)×Hp))->Hp->Option ((Option ia)×Hp):=λ(d,i,j) h=>aM (λ((_,k):Unit×Hp)=>some (none,k)) λl=>aE (λm((a,e):Int×Hp)=>bif a<d.length then aM (λ((_,n):Unit×Hp)=>m (Wk.wrap (a+1),n)) λo=>(aA d a).bind λp=>(i p).bind λf=>aE (λr((b,g):Int×Hp)=>bif b<f.length then(aA f b).bind λs=>(j (a,b,s) g).bind λc=>bif !c.1.isNone then some (c.1,c.2)else r (Wk.wrap (b+1),c.2)else o ((),g)) N (0,e)else l ((),e)) N (0,h)
abbrev K85(N:Nat):ca U:=⟨[(.list (.struct 23)),(.fn (.struct 23) (.list (.struct 21))),(.rJ (.pair .I (.pair .I (.struct 21))) (.ref (.struct 28)))],[.v (.ref (.struct 28))],none,.st (F85 N)⟩
theorem G85(N:Nat):Holds 85 (K85 N):=gS N Tryz.f85 (.q (.seq (some ⟨true,[],[],[],[]⟩) (.q (.block (.loop ⟨true,[1,2,12,13],[(14,.val .I)],[],[]⟩ (.q (.q (.seq (some ⟨true,[1,2,12,13,14],[],[],[]⟩) (.block (.q (.q (.block (.loop ⟨true,[1,2,7,12,13,14,21,22],[(23,.val .I)],[],[]⟩ .leaf))))) .leaf)))))) .leaf)) nl
def F86(N:Nat):bT->Option (List dw):=λa=>some a.c8
abbrev K86(N:Nat):ca U:=⟨[(.struct 23)],[.v (.list (.struct 21))],none,.pure (F86 N)⟩
theorem G86(N:Nat):Holds 86 (K86 N):=gP N Tryz.f86 .leaf nl
def F88(N:Nat):List Cell->Option (List Cell):=λa=>bif a.isEmpty then both (some []) ((db (fits 40 (0+a.length) 140737488355328)).bind λ_=>some (([]:List _)++a))else(db (fits 40 (0+a.length) 140737488355328)).bind λ_=>some (([]:List _)++a)
abbrev K88(N:Nat):ca U:=⟨[(.list (.struct 16))],[.own (.struct 16) 173],none,.pure (F88 N)⟩
theorem G88(N:Nat):Holds 88 (K88 N):=gP N Tryz.f88 .leaf nl
def F87(N:Nat):Int×Int×dw×(Option Nat)×Int->Hp->Option ((Option ia)×Hp):=λ(u,f,c,k,g) h=>
 k.bind λl=>
 (h.gz[l]?).bind λm=>
 (dW h.mj m.uH).bind λd=>
 bif ((aZ eqStr d c.ab).getD none).isNone then
  (Bz N (g,5,f,0,42)).bind λn=>
  some (n,h)
 else
  ((aZ eqStr d c.ab).getD none).bind λo=>
  (h.eQ[o]?).bind λp=>
  bif p.sq then
   (Bz N (g,5,f,0,40)).bind λr=>
   some (r,h)
  else
   (F88 N c.cells).bind λs=>
   ((aZ eqStr d c.ab).getD none).bind λi=>
   (h.eQ[i]?).bind λa=>
   cP {h with eQ:=h.eQ.set i (Entry.mk a.ab a.iw a.up a.number a.scopes a.rules a.equations a.cells a.pieces true a.oe)} λe=>
   ((aZ eqStr d c.ab).getD none).bind λj=>
   (e.eQ[j]?).bind λb=>
   cP {e with eQ:=e.eQ.set j (Entry.mk b.ab b.iw b.up b.number b.scopes b.rules b.equations s b.pieces b.sq b.oe)} λt=>
   some (none,t)
abbrev K87(N:Nat):ca U:=⟨[.I,.I,(.struct 21),(.cell (.ptr 0)),(.cell .I)],[.v (.ref (.struct 28))],none,.st (F87 N)⟩
theorem G87(N:Nat):Holds 87 (K87 N):=gS N Tryz.f87 .leaf (cn (G62 N) (cn (G88 N) nl))
def F84(N:Nat):(List bT)×(Option Nat)×Int->Hp->Option ((Option ia)×Hp):=λ(c,d,a) h=>(F85 N (c,λa=>F86 N a,λ(e,f,g) i=>F87 N (e,f,g,d,a) i) h).bind λb=>some (b.1,b.2)
abbrev K84(N:Nat):ca U:=⟨[(.cell (.list (.struct 23))),(.cell (.ptr 0)),(.cell .I)],[.v (.ref (.struct 28))],none,.st (F84 N)⟩
theorem G84(N:Nat):Holds 84 (K84 N):=gS N Tryz.f84 .leaf (cn (G85 N) (cn (G86 N) (cn (G87 N) nl)))
def F90(N:Nat):(List bT)×(bT->Option (List cp))×((Int×Int×cp)->Hp->Option ((Option ia)×Hp))->Hp->Option ((Option ia)×Hp):=λ(d,i,j) h=>aM (λ((_,k):Unit×Hp)=>some (none,k)) λl=>aE (λm((a,e):Int×Hp)=>bif a<d.length then aM (λ((_,n):Unit×Hp)=>m (Wk.wrap (a+1),n)) λo=>(aA d a).bind λp=>(i p).bind λf=>aE (λr((b,g):Int×Hp)=>bif b<f.length then(aA f b).bind λs=>(j (a,b,s) g).bind λc=>bif !c.1.isNone then some (c.1,c.2)else r (Wk.wrap (b+1),c.2)else o ((),g)) N (0,e)else l ((),e)) N (0,h)
abbrev K90(N:Nat):ca U:=⟨[(.list (.struct 23)),(.fn (.struct 23) (.list (.struct 22))),(.rJ (.pair .I (.pair .I (.struct 22))) (.ref (.struct 28)))],[.v (.ref (.struct 28))],none,.st (F90 N)⟩
theorem G90(N:Nat):Holds 90 (K90 N):=gS N Tryz.f90 (.q (.seq (some ⟨true,[],[],[],[]⟩) (.q (.block (.loop ⟨true,[1,2,12,13],[(14,.val .I)],[],[]⟩ (.q (.q (.seq (some ⟨true,[1,2,12,13,14],[],[],[]⟩) (.block (.q (.q (.block (.loop ⟨true,[1,2,7,12,13,14,21,22],[(23,.val .I)],[],[]⟩ .leaf))))) .leaf)))))) .leaf)) nl
def F91(N:Nat):bT->Option (List cp):=λa=>some a.cd
abbrev K91(N:Nat):ca U:=⟨[(.struct 23)],[.v (.list (.struct 22))],none,.pure (F91 N)⟩
theorem G91(N:Nat):Holds 91 (K91 N):=gP N Tryz.f91 .leaf nl
def F93(N:Nat):List vo->Option (List vo):=λa=>bif a.isEmpty then both (some []) ((db (fits 40 (0+a.length) 140737488355328)).bind λ_=>some (([]:List _)++a))else(db (fits 40 (0+a.length) 140737488355328)).bind λ_=>some (([]:List _)++a)
abbrev K93(N:Nat):ca U:=⟨[(.list (.struct 17))],[.own (.struct 17) 180],none,.pure (F93 N)⟩
theorem G93(N:Nat):Holds 93 (K93 N):=gP N Tryz.f93 .leaf nl
def F92(N:Nat):Int×Int×cp×(Option Nat)×Int->Hp->Option ((Option ia)×Hp):=λ(u,f,c,k,g) h=>
 k.bind λl=>
 (h.gz[l]?).bind λm=>
 (dW h.mj m.uH).bind λd=>
 bif ((aZ eqStr d c.ab).getD none).isNone then
  (Bz N (g,6,f,0,42)).bind λn=>
  some (n,h)
 else
  ((aZ eqStr d c.ab).getD none).bind λo=>
  (h.eQ[o]?).bind λp=>
  bif p.oe then
   (Bz N (g,6,f,0,40)).bind λr=>
   some (r,h)
  else
   (F93 N c.pieces).bind λs=>
   ((aZ eqStr d c.ab).getD none).bind λi=>
   (h.eQ[i]?).bind λa=>
   cP {h with eQ:=h.eQ.set i (Entry.mk a.ab a.iw a.up a.number a.scopes a.rules a.equations a.cells a.pieces a.sq true)} λe=>
   ((aZ eqStr d c.ab).getD none).bind λj=>
   (e.eQ[j]?).bind λb=>
   cP {e with eQ:=e.eQ.set j (Entry.mk b.ab b.iw b.up b.number b.scopes b.rules b.equations b.cells s b.sq b.oe)} λt=>
   some (none,t)
abbrev K92(N:Nat):ca U:=⟨[.I,.I,(.struct 22),(.cell (.ptr 0)),(.cell .I)],[.v (.ref (.struct 28))],none,.st (F92 N)⟩
theorem G92(N:Nat):Holds 92 (K92 N):=gS N Tryz.f92 .leaf (cn (G62 N) (cn (G93 N) nl))
def F89(N:Nat):(List bT)×(Option Nat)×Int->Hp->Option ((Option ia)×Hp):=λ(c,d,a) h=>(F90 N (c,λa=>F91 N a,λ(e,f,g) i=>F92 N (e,f,g,d,a) i) h).bind λb=>some (b.1,b.2)
abbrev K89(N:Nat):ca U:=⟨[(.cell (.list (.struct 23))),(.cell (.ptr 0)),(.cell .I)],[.v (.ref (.struct 28))],none,.st (F89 N)⟩
theorem G89(N:Nat):Holds 89 (K89 N):=gS N Tryz.f89 .leaf (cn (G90 N) (cn (G91 N) (cn (G92 N) nl)))
def F36(N:Nat):(Option Nat)×(List bT)->Hp->Option ((Option ia)×Hp):=λ(c,b) h=>aM (λ((_,j):Unit×Hp)=>some (none,j)) λk=>aE (λl((a,i):Int×Hp)=>bif a<b.length then(db (decide (0<=a)&&(decide (0<=Wk.wrap (a+1))&&(decide (a.toNat<=(Wk.wrap (a+1)).toNat)&&decide ((Wk.wrap (a+1)).toNat<=b.length))))).bind λ_=>(F73 N ((b.take ((Wk.wrap (a+1)).toNat)).drop a.toNat,c,a) i).bind λd=>bif !d.1.isNone then some (d.1,d.2)else(F79 N ((b.take ((Wk.wrap (a+1)).toNat)).drop a.toNat,c,a) d.2).bind λe=>bif !e.1.isNone then some (e.1,e.2)else(F84 N ((b.take ((Wk.wrap (a+1)).toNat)).drop a.toNat,c,a) e.2).bind λf=>bif !f.1.isNone then some (f.1,f.2)else(F89 N ((b.take ((Wk.wrap (a+1)).toNat)).drop a.toNat,c,a) f.2).bind λg=>bif !g.1.isNone then some (g.1,g.2)else l (Wk.wrap (a+1),g.2)else k ((),i)) N (0,h)
abbrev K36(N:Nat):ca U:=⟨[(.ptr 0),(.list (.struct 23))],[.v (.ref (.struct 28))],none,.st (F36 N)⟩
theorem G36(N:Nat):Holds 36 (K36 N):=gS N Tryz.f36 (.q (.seq (some ⟨true,[],[],[],[]⟩) (.q (.block (.loop ⟨true,[1,2,12],[(13,.val .I)],[],[]⟩ (.q (.q (.seq none (.block (.q (.q (.q (.q (.block (.M7 .leaf))))))) .leaf)))))) .leaf)) (cn (G73 N) (cn (G79 N) (cn (G84 N) (cn (G89 N) nl)))) [(2,998)]
def F14(N:Nat):List bT->Hp->Option (((Option Nat)×ia)×Hp):=λb h=>
 cP {h with mj:=h.mj++[[]]} λa=>
 cP {a with gz:=a.gz++[Fa.mk (some h.mj.length) none (Bw.mk (jT.mk) (Bv.mk (jU.mk) 0) (tV.mk (jT.mk) (Ae.mk 0 0))) none (Lt.mk (jU.mk) (p9.mk) 0)]} λg=>
 (F32 N (some a.gz.length,b)).bind λi=>
 bif !i.isNone then
  i.bind λj=>
  some ((none,j),g)
 else
  (F33 N (some a.gz.length,b) g).bind λd=>
  bif !d.1.isNone then
   d.1.bind λk=>
   some ((none,k),d.2)
  else
   (F34 N (some a.gz.length,b) d.2).bind λe=>
   bif !e.1.isNone then
    e.1.bind λl=>
    some ((none,l),e.2)
   else
    (F35 N (some a.gz.length,b) e.2).bind λf=>
    bif !f.1.isNone then
     f.1.bind λm=>
     some ((none,m),f.2)
    else
     (F36 N (some a.gz.length,b) f.2).bind λc=>
     bif !c.1.isNone then
      c.1.bind λn=>
      some ((none,n),c.2)
     else
      (some a.gz.length).bind λo=>
      (c.2.gz[o]?).bind λp=>
      (F37 N p.names c.2).bind λr=>
      some ((some a.gz.length,ia.mk 0 0 0 0),r.2)
abbrev K14(N:Nat):ca U:=⟨[(.list (.struct 23))],[.v (.ptr 0),.v (.struct 28)],none,.st (F14 N)⟩
theorem G14(N:Nat):Holds 14 (K14 N):=gS N Tryz.f14 (.q (.q (.seq none (.q (.block (.M7 .leaf))) .leaf))) (cn (G32 N) (cn (G33 N) (cn (G34 N) (cn (G35 N) (cn (G36 N) (cn (G37 N) nl)))))) [(8,2),(10,0)]
def YJ(N:Nat):Option Nat->Hp->Option (Unit×Hp):=λj h=>
 j.bind λr0=>
 (h.gz[r0]?).bind λs0=>
 (dW h.mj s0.uH).bind λe=>
 (db (decide (0<=(e.length:Int))&&fits 16 ((e.length:Int).toNat) 281474976710656)).bind λ_=>
 j.bind λu=>
 (db (!(List.replicate (e.length:Int).toNat (dT.mk 0 0:dT)).isEmpty)).bind λ_=>
 cP {h with oS:=h.oS++[some (List.replicate (e.length:Int).toNat (dT.mk 0 0:dT))]} λl=>
 (l.gz[u]?).bind λf=>
 cP {l with gz:=l.gz.set u (Fa.mk f.uH f.names (Bw.mk (jT.mk) (Bv.mk (jU.mk) f.ready.done.v) (tV.mk (jT.mk) f.ready.m.mu)) (some (h.oS.length,(List.replicate (e.length:Int).toNat (dT.mk 0 0:dT)).length)) (Lt.mk (jU.mk) (p9.mk) f.asked.v))} λn=>
 j.bind λt0=>
 (n.gz[t0]?).bind λv0=>
 v0.uH.bind λw0=>
 (n.mj[w0]?).bind λy=>
 m6 (λ(z:bE×(Option Nat))((_,o):Unit×Hp) x0=>
  aE (λk((c,a):(Option Nat)×Hp)=>
   bif !c.isNone then
    j.bind λy0=>
    (a.gz[y0]?).bind λp=>
    z.2.bind λz0=>
    (a.eQ[z0]?).bind λb=>
    c.bind λb1=>
    (a.eQ[b1]?).bind λd=>
    (db (decide (64≠0))).bind λ_=>
    p.bits.bind λr=>
    (db (decide (0<=b.number)&&decide (b.number<(r.2:Int)))).bind λ_=>
    bif gK (Wk.wrap (d.number.tdiv 64)) 0 then
     (fk a.oS r.1).bind λc1=>
     (c1[b.number.toNat]?).bind λb0=>
     c.bind λd1=>
     (a.eQ[d1]?).bind λs=>
     (db (decide (64≠0))).bind λ_=>
     (db (decide (0<=s.number.tmod 64))).bind λ_=>
     p.bits.bind λg=>
     (db (decide (0<=b.number)&&decide (b.number<(g.2:Int)))).bind λ_=>
     bif gK (Wk.wrap (d.number.tdiv 64)) 0 then
      (fk a.oS g.1).bind λc0=>
      (c0[b.number.toNat]?).bind λg1=>
      cP {a with oS:=a.oS.set g.1 (some (c0.set b.number.toNat (dT.mk (IntKind.u64.wrap ((BitVec.ofInt IntKind.u64.bits b0.e0|||BitVec.ofInt IntKind.u64.bits (IntKind.u64.wrap (1*2^(min ((s.number.tmod 64).toNat) IntKind.u64.bits)))).toNat)) g1.e1)))} λd0=>
      c.bind λj1=>
      (d0.eQ[j1]?).bind λk1=>
      k (k1.up,d0)
     else
     bif gK (Wk.wrap (d.number.tdiv 64)) 1 then
      (fk a.oS g.1).bind λg0=>
      (g0[b.number.toNat]?).bind λm1=>
      cP {a with oS:=a.oS.set g.1 (some (g0.set b.number.toNat (dT.mk m1.e0 (IntKind.u64.wrap ((BitVec.ofInt IntKind.u64.bits b0.e0|||BitVec.ofInt IntKind.u64.bits (IntKind.u64.wrap (1*2^(min ((s.number.tmod 64).toNat) IntKind.u64.bits)))).toNat)))))} λj0=>
      c.bind λn1=>
      (j0.eQ[n1]?).bind λp1=>
      k (p1.up,j0)
     else
     none
    else
    bif gK (Wk.wrap (d.number.tdiv 64)) 1 then
     (fk a.oS r.1).bind λq1=>
     (q1[b.number.toNat]?).bind λk0=>
     c.bind λr1=>
     (a.eQ[r1]?).bind λt=>
     (db (decide (64≠0))).bind λ_=>
     (db (decide (0<=t.number.tmod 64))).bind λ_=>
     p.bits.bind λi=>
     (db (decide (0<=b.number)&&decide (b.number<(i.2:Int)))).bind λ_=>
     bif gK (Wk.wrap (d.number.tdiv 64)) 0 then
      (fk a.oS i.1).bind λm0=>
      (m0[b.number.toNat]?).bind λs1=>
      cP {a with oS:=a.oS.set i.1 (some (m0.set b.number.toNat (dT.mk (IntKind.u64.wrap ((BitVec.ofInt IntKind.u64.bits k0.e1|||BitVec.ofInt IntKind.u64.bits (IntKind.u64.wrap (1*2^(min ((t.number.tmod 64).toNat) IntKind.u64.bits)))).toNat)) s1.e1)))} λn0=>
      c.bind λt1=>
      (n0.eQ[t1]?).bind λv1=>
      k (v1.up,n0)
     else
     bif gK (Wk.wrap (d.number.tdiv 64)) 1 then
      (fk a.oS i.1).bind λp0=>
      (p0[b.number.toNat]?).bind λw1=>
      cP {a with oS:=a.oS.set i.1 (some (p0.set b.number.toNat (dT.mk w1.e0 (IntKind.u64.wrap ((BitVec.ofInt IntKind.u64.bits k0.e1|||BitVec.ofInt IntKind.u64.bits (IntKind.u64.wrap (1*2^(min ((t.number.tmod 64).toNat) IntKind.u64.bits)))).toNat)))))} λq0=>
      c.bind λx1=>
      (q0.eQ[x1]?).bind λy1=>
      k (y1.up,q0)
     else
     none
    else
    none
   else x0 ((),a)) N (z.2,o)) (λ((_,o):Unit×Hp)=>
  some ((),o)) y.length y ((),n)
abbrev ajY(N:Nat):ca U:=⟨[(.cell (.ptr 0))],[],none,.st (YJ N)⟩
theorem ajZ(N:Nat):Holds 178 (ajY N):=gM N Tryz.f178 (.q (.Ie ⟨true,[0,17],[],[],[]⟩ (.q (.block (.loop ⟨true,[0,2,17],[(3,.val (.ptr 1))],[],[]⟩ .leaf))))) nl
end Go.Proofs.Mo
