import Derived.Test.YtlacgaedkjhfhaaGreatDoorZC25
set_option linter.all false
set_option maxRecDepth 20000
open Option renaming some->O,none->Y
open Bool renaming true->W,false->F
open Go.Proofs.Tryz
noncomputable section
namespace Go.Proofs.Mo
open Go Go.Ev Go.X
open Go.IntKind renaming i64->Wk
section
variable(N:Nat)
def YO(N:Nat):Z Dm->V (Z Dm):=λa=>bif a.isEmpty then both (O []) ((cR (cE 32 (0+a.length) 140737488355328)).bind λ_=>O (([]:Z _)++a))else(cR (cE 32 (0+a.length) 140737488355328)).bind λ_=>O (([]:Z _)++a)
abbrev agP:b7 U:=⟨[ah3],[.bU aik 96],Y,.pure (YO N)⟩
def agQ:Holds 211 (agP N):=gP N f211 .aC nl
def YP(N:Nat):Z Rf->V (Z Rf):=λa=>bif a.isEmpty then both (O []) ((cR (cE 24 (0+a.length) 140737488355328)).bind λ_=>O (([]:Z _)++a))else(cR (cE 24 (0+a.length) 140737488355328)).bind λ_=>O (([]:Z _)++a)
abbrev agR:b7 U:=⟨[ah4],[.bU ail 141],Y,.pure (YP N)⟩
def agS:Holds 212 (agR N):=gP N f212 .aC nl
def VI:Nd->V Nd:=λa=>(YO N a.bl).bind λb=>(YP N a.ab).bind λc=>(cR (decide (0<=(a.bj.length:Int))&&cE 8 ((a.bj.length:Int).toNat) 281474976710656)).bind λ_=>O (Nd.mk a.iD a.aw a.cQ a.role b (a.bj.take (min a.bj.length (List.replicate (a.bj.length:Int).toNat (0:Int)).length)++(List.replicate (a.bj.length:Int).toNat (0:Int)).drop (min a.bj.length (List.replicate (a.bj.length:Int).toNat (0:Int)).length)) c)
abbrev agT:b7 U:=⟨[ahK],[.v ahK],Y,.pure (VI N)⟩
def agU:Holds 117 (agT N):=gP N f117 .aC (cn (agQ N) (cn (agS N) nl))
def F47:hD×Int->V (Nd×tl):=λ(a,c)=>(Zj N a).bind λd=>bif !(d==0)then O (Nd.mk 0 [] 0 [] [] [] [],F)else(Dn N (a,c)).bind λb=>bif 0<=b then(aR a.ay b).bind λz3=>(VI N z3).bind λe=>O (e,W)else O (Nd.mk 0 [] 0 [] [] [] [],F)
abbrev K47:b7 U:=⟨[ahB,.I],[.v ahK,.v .bool],Y,.pure (F47 N)⟩
def G47:Holds 47 (K47 N):=gP N f47 .aC (cn (G45 N) (cn (Un N) (cn (agU N) nl)))
def YQ:(V Nat)×hD×qI×Int×Int->Hp->V (((V Nat)×Int)×Hp):=λ(m,b,a2,a3,c) h=>
 (Zj N b).bind λr=>
 bif !(r==0)then O ((Y,29),h)
 else
  (Z3 N (qI.mk a2.aq) h).bind λa=>
  bif !(a.1.2==0)then O ((Y,a.1.2),a.2)
  else
   (F47 N (b,a3)).bind λs=>
   bif !(a3==0)then
    bif !s.2 then O ((Y,2),a.2)
    else
     bif c<0 then O ((Y,2),a.2)
     else
      bif 1048576<c then O ((Y,2),a.2)
      else
       bw {a.2 with jt:=a.2.jt++[[]]} λi=>
       (cR (decide (0<=(a2.aq.length:Int))&&cE 8 ((a2.aq.length:Int).toNat) 281474976710656)).bind λ_=>
       (cR (!(List.replicate (a2.aq.length:Int).toNat (0:Int)).isEmpty)).bind λ_=>
       bw {i with sg:=i.sg++[O (List.replicate (a2.aq.length:Int).toNat (0:Int))]} λf=>
       bw {f with fj:=f.fj++[bO.mk m b a2.aq (O a.2.jt.length) a3 c 0 0 Y Y (O (i.sg.length,(List.replicate (a2.aq.length:Int).toNat (0:Int)).length))]} λt=>
       aS (λ((_,u):xW×Hp)=>O ((O f.fj.length,0),u)) λv=>
       aZ (λw((j,d):Int×Hp)=>
        bif j<b.ay.length then
         (aR b.ay j).bind λn=>
         (O f.fj.length).bind λx=>
         (d.fj[x]?).bind λy=>
         y.lh.bind λo=>
         (d.jt[o]?).bind λz=>
         bw {d with jt:=d.jt.set o (eX bp z n.iD n)} λA=>
         w (Wk.wrap (j+1),A)
        else v ((),d)) N (0,t)
   else
    bif c<0 then O ((Y,2),a.2)
    else
     bif 1048576<c then O ((Y,2),a.2)
     else
      bw {a.2 with jt:=a.2.jt++[[]]} λk=>
      (cR (decide (0<=(a2.aq.length:Int))&&cE 8 ((a2.aq.length:Int).toNat) 281474976710656)).bind λ_=>
      (cR (!(List.replicate (a2.aq.length:Int).toNat (0:Int)).isEmpty)).bind λ_=>
      bw {k with sg:=k.sg++[O (List.replicate (a2.aq.length:Int).toNat (0:Int))]} λg=>
      bw {g with fj:=g.fj++[bO.mk m b a2.aq (O a.2.jt.length) a3 c 0 0 Y Y (O (k.sg.length,(List.replicate (a2.aq.length:Int).toNat (0:Int)).length))]} λB=>
      aS (λ((_,C):xW×Hp)=>O ((O g.fj.length,0),C)) λD=>
      aZ (λE((l,e):Int×Hp)=>
       bif l<b.ay.length then
        (aR b.ay l).bind λp=>
        (O g.fj.length).bind λG=>
        (e.fj[G]?).bind λH=>
        H.lh.bind λq=>
        (e.jt[q]?).bind λI=>
        bw {e with jt:=e.jt.set q (eX bp I p.iD p)} λJ=>
        E (Wk.wrap (l+1),J)
       else D ((),e)) N (0,B)
abbrev K24:b7 U:=⟨[ahY,ahB,ahT,.I,.I],[.v ahx,.v .I],Y,.st (YQ N)⟩
def G24:Holds 24 (K24 N):=gS N f24 (.q (.q (.q (.q (.q (.seq (O ⟨W,[16],[],[],[]⟩) (.q (.block (.loop ⟨W,[16,64,65],[(66,.val .I)],[],[]⟩ .aC))) .aC)))))) (cn (G45 N) (cn (G46 N) (cn (G47 N) nl))) [(54,15),(62,10)]
structure YR where
 y:Option (eT×Hp)
 i:Option Nat
 e:Option bO
def qh{α:Type}(v:V Nat->Hp->V (eT×Hp))(p:V Nat)(h:Hp)(j:Nat)(s:YR)(k:YR->V α):V α:=match j with
 |1=>(v p h).bind λy=>k {s with y:=O y}|3=>p.bind λi=>k {s with i:=O i}
 |5=>match s.i with
  |none=>Y|some i=>((match s.y with|none=>h|some y=>y.2).fj[i]?).bind λe=>k {s with e:=O e}
 |_=>k s
def yP{σ α:Type}(a:Array JB)(step:Nat->σ->(σ->V α)->V α)(K:σ->V α):Nat->Array tl->σ->V α
 |0,_,_=>Y|n+1,listed,s=>match Region.ready .any a listed with
  |[]=>K s|i::l=>Ku (λi=>step i s λs=>yP a step K n (listed.setIfInBounds i W) s) (i::l)
def yQ:Array JB:=match OE (me 4 (f12.body.getD .skip))with
 |.region _ a _=>a|_=>#[]
def Cz(s:YR):V ((eT×Int×Int)×Hp):=match s.y,s.e with
 |some y,O e=>O ((y.1,e.eC,0),y.2)|_,_=>Y
def YS(N:Nat)(f:(V Nat)×hD×qI×Int×Int->Hp->V (((V Nat)×Int)×Hp))(g:V Nat->Hp->V (Int×Hp))(i:V Nat->Hp->V (eT×Hp)):(V Nat)×hD×qI×Int×Int->Hp->V ((eT×Int×Int)×Hp):=λ(j,k,l,m,n) h=>(f (j,k,qI.mk l.aq,m,n) h).bind λa=>aS (λ((b,c):Int×Hp)=>bif !(b==0)then O ((eT.mk 0 0 [] F 0 [],0,b),c)else yP yQ (qh i a.1.1 c) Cz 10 (Array.replicate 9 F) ⟨Y,Y,Y⟩) λd=>bif a.1.2==0 then(g a.1.1 a.2).bind λe=>d (e.1,e.2)else d (a.1.2,a.2)
abbrev WN(a:(V Nat)×hD×qI×Int×Int->Hp->V (((V Nat)×Int)×Hp))(b:V Nat->Hp->V (Int×Hp))(c:V Nat->Hp->V (eT×Hp)):Z (Nat×Z (b7 U)):=[(24,[⟨[ahY,ahB,ahT,.I,.I],[.v ahx,.v .I],Y,.st a⟩]),(25,[⟨[ahx],[.v .I],Y,.st b⟩]),(26,[⟨[ahx],[.v ahz],Y,.st c⟩])]
def E12(N:Nat)(a:(V Nat)×hD×qI×Int×Int->Hp->V (((V Nat)×Int)×Hp))(b:V Nat->Hp->V (Int×Hp))(c:V Nat->Hp->V (eT×Hp)):∀(x:(V Nat)×hD×qI×Int×Int)(h:Hp),vr (U:=U) (BB.qN N (WN a b c)) [ahY,ahB,ahT,.I,.I] [.v ahz,.v .I,.v .I] Y [] f12.results.toList (f12.body.getD .skip) (.q (.q (.seq (O ⟨W,[10,13],[(14,.val .I)],[10],[]⟩) .aC (.q (.seq Y .enm .aC))))) x h=YS N a b c x h:=by intros;kernel_rfl
def To:(V Nat)×hD×qI×Int×Int->Hp->V ((eT×Int×Int)×Hp):=YS N (YQ N) (Wn N) (Lo N)
abbrev K12:b7 U:=⟨[ahY,ahB,ahT,.I,.I],[.v ahz,.v .I,.v .I],Y,.st (To N)⟩
def G12:Holds 12 (K12 N):=gS N f12 (.q (.q (.seq (O ⟨W,[10,13],[(14,.val .I)],[10],[]⟩) .aC (.q (.seq Y .enm .aC))))) (con:=WN (YQ N) (Wn N) (Lo N)) (cn (G24 N) (cn (G25 N) (cn (Yn N) nl))) (hF:=E12 N (YQ N) (Wn N) (Lo N))
def Zd:(V Nat)×hD×qI×Int×Int->Hp->V (((Z Int)×Int)×Hp):=λ(d,e,a2,a3,f) h=>
 (YQ N (d,e,qI.mk a2.aq,a3,f) h).bind λa=>
 bif !(a.1.2==0)then O (([],a.1.2),a.2)
 else
  (Wn N a.1.1 a.2).bind λb=>
  a.1.1.bind λg=>
  (b.2.fj[g]?).bind λc=>
  (ad b.2.sg c.fA).bind λi=>
  bw {b.2 with sg:=ek b.2.sg c.fA} λj=>
  O ((i,b.1),j)
abbrev K13:b7 U:=⟨[ahY,ahB,ahT,.I,.I],[.v ah6,.v .I],Y,.st (Zd N)⟩
def G13:Holds 13 (K13 N):=gS N f13 .aC (cn (G24 N) (cn (G25 N) nl))
def F6:Nj->V tl:=λa=>aS (λ((e,_):Int×xW)=>bif 60<e then O W else bif 20<(a.ls.length:Int)then O W else bif 60<(a.m.ay.length:Int)then O W else bif 20000<a.bT then O (decide (a.bT<=1048576))else O F) λd=>aZ (λf(((b,c),_):(Int×Int)×xW)=>bif c<a.ls.length then bif c<100 then bif b<=1000 then(aR a.ls c).bind λg=>f ((Wk.wrap ((Wk.wrap (b+1))+(g.br.length:Int)),Wk.wrap (c+1)),())else d (b,())else d (b,())else d (b,())) N ((0,0),())
abbrev K6:b7 U:=⟨[(.struct 28)],[.v .bool],Y,.pure (F6 N)⟩
def G6:Holds 6 (K6 N):=gP N f6 (.q (.q (.seq (O ⟨F,[1],[(3,.val .I)],[1],[]⟩) (.q (.block (.loop ⟨F,[1],[(3,.val .I),(4,.val .I)],[1],[]⟩ .aC))) .aC))) nl
def F7:Z cW->Hp->V (((V Nat)×(Z cW))×Hp):=λc h=>(F19 N c h).bind λa=>bif !(a.1.2.gd==0)then O ((Y,[]),a.2)else(F20 N c).bind λb=>bif !((b.Wd==0)&&((b.eB==0)&&((b.part==0)&&((b.gd==0)&&W))))then O ((Y,[]),a.2)else O ((a.1.1,c),a.2)
abbrev K7:b7 U:=⟨[aht],[.v ahY,.v aht],Y,.st (F7 N)⟩
def G7:Holds 7 (K7 N):=gS N f7 .aC (cn (G19 N) (cn (G20 N) nl))
def F15:(Z Int)×(Z Int)->V tl:=λ(b,c)=>bif !((b.length:Int)==(c.length:Int))then O F else aS (λ(_:xW×xW)=>O W) λd=>aZ (λe((a,_):Int×xW)=>bif a<b.length then(aR b a).bind λf=>(aR c a).bind λg=>bif !(f==g)then O F else e (Wk.wrap (a+1),())else d ((),())) N (0,())
abbrev K15:b7 U:=⟨[ah6,ah6],[.v .bool],Y,.pure (F15 N)⟩
def G15:Holds 15 (K15 N):=gP N f15 (.q (.q (.J (.W [0,1] [(5,.val .I)]) .aC))) nl
def Zo:eT×eT->V tl:=λ(a,b)=>bif a.kind==b.kind then bif a.int==b.int then bif a.text==b.text then bif (a.bool==b.bool)then bif a.node==b.node then(F15 N (a.aq,b.aq)).bind λc=>O c else O F else O F else O F else O F else O F
abbrev K14:b7 U:=⟨[ahz,ahz],[.v .bool],Y,.pure (Zo N)⟩
def G14:Holds 14 (K14 N):=gP N f14 .aC (cn (G15 N) nl)
def F28(N:Nat):tl->V eT:=λa=>O (eT.mk 3 0 [] a 0 [])
abbrev K28:b7 U:=⟨[.bool],[.v ahz],Y,.pure (F28 N)⟩
def G28:Holds 28 (K28 N):=gP N f28 .aC nl
def F18:xW->Hp->V (tl×Hp):=λ_ h=>(To N (Y,hD.mk 3 [Nd.mk 1 [76,105,115,116] 0 [] [] [2] [],Nd.mk 2 [78,117,109] 1 [105,116,101,109] [Dm.mk [118] [53]] [] []],qI.mk [c8.mk 1 3 0 [],c8.mk 6 0 0 [],c8.mk 11 0 0 [105,116,101,109],c8.mk 35 0 0 [],c8.mk 39 12 0 [],c8.mk 1 3 0 [],c8.mk 8 0 0 [],c8.mk 10 0 0 [118],c8.mk 1 1 0 [],c8.mk 3 0 0 [53],c8.mk 25 0 0 [],c8.mk 40 4 0 []],1,100) h).bind λb=>(To N (Y,hD.mk 3 [Nd.mk 1 [76,105,115,116] 0 [] [] [2] [],Nd.mk 2 [78,117,109] 1 [105,116,101,109] [Dm.mk [118] [53]] [] []],qI.mk [c8.mk 1 3 0 [],c8.mk 6 0 0 [],c8.mk 11 0 0 [105,116,101,109],c8.mk 35 0 0 [],c8.mk 39 12 0 [],c8.mk 1 3 0 [],c8.mk 8 0 0 [],c8.mk 10 0 0 [118],c8.mk 1 1 0 [],c8.mk 3 0 0 [53],c8.mk 25 0 0 [],c8.mk 40 4 0 []],1,7) b.2).bind λc=>(Zd N (Y,hD.mk 3 [Nd.mk 1 [76,105,115,116] 0 [] [] [2] [],Nd.mk 2 [78,117,109] 1 [105,116,101,109] [Dm.mk [118] [53]] [] []],qI.mk [c8.mk 1 3 0 [],c8.mk 6 0 0 [],c8.mk 11 0 0 [105,116,101,109],c8.mk 35 0 0 [],c8.mk 39 12 0 [],c8.mk 1 3 0 [],c8.mk 8 0 0 [],c8.mk 10 0 0 [118],c8.mk 1 1 0 [],c8.mk 3 0 0 [53],c8.mk 25 0 0 [],c8.mk 40 4 0 []],1,100) c.2).bind λa=>bif b.1.2.2==0 then(F28 N W).bind λd=>(Zo N (b.1.1,d)).bind λe=>bif e then bif b.1.2.1==8 then bif c.1.2.2==100 then bif a.1.2==0 then bif (a.1.1.length:Int)==12 then(aR a.1.1 11).bind λf=>O ((f==1),a.2)else O (F,a.2)else O (F,a.2)else O (F,a.2)else O (F,a.2)else O (F,a.2)else O (F,a.2)
abbrev K18:b7 U:=⟨[],[.v .bool],Y,.st (F18 N)⟩
def G18:Holds 18 (K18 N):=gS N f18 .aC (cn (G12 N) (cn (G13 N) (cn (G14 N) (cn (G28 N) nl)))) [(17,999),(31,999)]
def F5:Nj×qI->Hp->V (tl×Hp):=λ(b,d) h=>(F18 N () h).bind λf=>bif !f.1 then O (F,f.2)else(F6 N b).bind λp=>bif p then O (W,f.2)else bif 1100<(d.aq.length:Int)then O (W,f.2)else(F7 N b.ls f.2).bind λi=>(To N (i.1.1,b.m,qI.mk d.aq,b.self,b.bT) i.2).bind λc=>(Zd N (i.1.1,b.m,qI.mk d.aq,b.self,b.bT) c.2).bind λa=>bif !(c.1.2.2==a.1.2)then O ((c.1.2.2==a.1.2),a.2)else bif !(c.1.2.2==0)then O ((c.1.2.2==a.1.2),a.2)else bif !((a.1.1.length:Int)==(d.aq.length:Int))then O (F,a.2)else bif (a.1.1.length:Int)==0 then O (F,a.2)else(aR a.1.1 0).bind λr=>bif !(r==1)then O (F,a.2)else aS (λ(((n,s),_):(Int×tl)×xW)=>bif n<=c.1.2.1 then bif s then O (W,a.2)else O ((c.1.2.1==n),a.2)else O (F,a.2)) λt=>aZ (λu(((g,j,e),_):(Int×tl×Int)×xW)=>bif e<a.1.1.length then aS (λ(((v,y),_):(Int×tl)×xW)=>u ((v,y,Wk.wrap (e+1)),())) λk=>(aR a.1.1 e).bind λz=>bif z<0 then O (F,a.2)else(aR d.aq e).bind λl=>bif l.op==1 then(aR a.1.1 e).bind λb0=>(aR d.aq e).bind λm=>k ((Wk.wrap (g+(Wk.wrap (b0*m.arg))),j),())else aS (λ((q,_):tl×xW)=>bif q then k ((g,W),())else k ((g,j),())) λo=>bif l.op==39 then o (W,())else o ((l.op==15),())else t ((g,j),())) N ((0,F,0),())
abbrev K5:b7 U:=⟨[(.struct 28),ahT],[.v .bool],Y,.st (F5 N)⟩
def G5:Holds 5 (K5 N):=gS N f5 (.q (.q (.q (.q (.q (.q (.q (.q (.q (.seq (O ⟨F,[8],[(12,.val .I),(13,.val .bool)],[],[]⟩) (.q (.block (.loop ⟨F,[3,8,10],[(12,.val .I),(13,.val .bool),(14,.val .I)],[3],[]⟩ (.q (.seq (O ⟨F,[3,8,10,14],[(12,.val .I),(13,.val .bool)],[3],[]⟩) (.block (.q (.q (.block (.q (.cond .aC (.seq (O ⟨F,[3,8,10,12,13,14],[(115,.val .bool)],[3],[]⟩) .aC .aC))))))) .aC))))) .aC)))))))))) (cn (G6 N) (cn (G7 N) (cn (G12 N) (cn (G13 N) (cn (G18 N) nl)))))
end
end Go.Proofs.Mo
