import Derived.Test.YtedadjfbbpjaiaaGreatProg
import Derived.Test.YtedadjfbbpjaiaaGreatZ16
set_option linter.all false
set_option maxRecDepth 20000
noncomputable section
namespace Go.Proofs.Mo
open Go Go.Ev Go.X
structure l7 where
 kind:Int
 name:bE
 num:Int
 args:List Int
 deriving Inhabited
structure jT where
 deriving Inhabited
structure jU where
 deriving Inhabited
structure Bv where
 u0:jU
 v:Int
 deriving Inhabited
structure Ae where
 state:Int
 aeV:Int
 deriving Inhabited
structure tV where
 u0:jT
 mu:Ae
 deriving Inhabited
structure Bw where
 u0:jT
 done:Bv
 m:tV
 deriving Inhabited
structure p9 where
 deriving Inhabited
structure Lt where
 u0:jU
 u1:p9
 v:Int
 deriving Inhabited
structure Fa where
 uH:Option Nat
 names:Option (Nat×Nat)
 ready:Bw
 bits:Option (Nat×Nat)
 asked:Lt
 deriving Inhabited
structure dT where
 e0:Int
 e1:Int
 deriving Inhabited
structure dR where
 name:bE
 type:Int
 deriving Inhabited
structure cg where
 role:bE
 ab:bE
 min:Int
 max:Int
 deriving Inhabited
structure fj where
 role:bE
 ab:bE
 ain:Bool
 deriving Inhabited
structure cN where
 name:bE
 cQ:bE
 ir:Bool
 aW:List dR
 kids:List cg
 refs:List fj
 deriving Inhabited
structure Cell where
 kind:Int
 text:bE
 mark:bE
 deriving Inhabited
structure vo where
 kind:Int
 text:bE
 mark:bE
 deriving Inhabited
structure Entry where
 ab:cN
 iw:bE
 up:Option Nat
 number:Int
 scopes:Option Nat
 rules:Option (Nat×Nat)
 equations:Option (Nat×Nat)
 cells:List Cell
 pieces:List vo
 sq:Bool
 oe:Bool
 deriving Inhabited
structure rm where
 ab:bE
 name:bE
 scope:Bool
 expr:bE
 deriving Inhabited
structure cC where
 ab:bE
 left:List l7
 right:List l7
 deriving Inhabited
structure dw where
 ab:bE
 cells:List Cell
 deriving Inhabited
structure cp where
 ab:bE
 pieces:List vo
 deriving Inhabited
structure bT where
 name:bE
 version:Int
 rZ:List bE
 aQ:List cN
 rules:List rm
 equations:List cC
 c8:List dw
 cd:List cp
 deriving Inhabited
structure IZ where
 name:bE
 value:bE
 deriving Inhabited
structure Rf where
 role:bE
 target:Int
 deriving Inhabited
structure Nd where
 iD:Int
 ab:bE
 parent:Int
 role:bE
 aW:List IZ
 kids:List Int
 refs:List Rf
 deriving Inhabited
structure dX where
 next:Int
 nodes:List Nd
 deriving Inhabited
structure ia where
 Z3:Int
 Z4:Int
 part:Int
 err:Int
 deriving Inhabited
structure NT where
 e0:Int
 e1:Int
 e2:Int
 deriving Inhabited
structure NU where
 e0:Option Nat
 e1:Option Nat
 e2:Option Nat
 e3:Option Nat
 deriving Inhabited
structure Em where
 expr:bE
 deriving Inhabited
structure nb where
 ab:bE
 target:Int
 deriving Inhabited
structure l8 where
 f:ia
 deriving Inhabited
structure Hp where
 gz:List Fa
 eQ:List Entry
 mj:List (List (bE×Option Nat))
 By:List (List (bE×Em))
 Af:List (Option (List bE))
 I7:List (Option (List rm))
 eqs:List (Option (List cC))
 all:List (List (bE×cN))
 En:List Int
 oS:List (Option (List dT))
 ja:List (Option (List nb))
 deriving Inhabited
@[reducible] noncomputable def CC:Nat->Type
  |0=>Hp|1=>l7
  |2=>jT|3=>jU
  |4=>Bv|5=>Ae
  |6=>tV|7=>Bw
  |8=>p9|9=>Lt
  |10=>Fa|11=>dT
  |12=>dR|13=>cg
  |14=>fj|15=>cN
  |16=>Cell|17=>vo
  |18=>Entry|19=>rm
  |20=>cC|21=>dw
  |22=>cp|23=>bT
  |24=>IZ|25=>Rf
  |26=>Nd|27=>dX
  |28=>ia|29=>NT
  |30=>NU|31=>Em
  |32=>nb|33=>l8
  |_+34=>Unit
@[reducible] noncomputable def UF:Nat->List Ty
  |0=>[]|1=>[(.int .i64),.str,(.int .i64),(.list (.int .i64))]
  |2=>[]|3=>[]
  |4=>[(.struct 3),(.int .u32)]|5=>[(.int .i32),(.int .u32)]
  |6=>[(.struct 2),(.struct 5)]|7=>[(.struct 2),(.struct 4),(.struct 6)]
  |8=>[]|9=>[(.struct 3),(.struct 8),(.int .i64)]
  |10=>[(.mp 2),(.hs 4),(.struct 7),(.hs 9),(.struct 9)]|11=>[(.int .u64),(.int .u64)]
  |12=>[.str,(.int .i64)]|13=>[.str,.str,(.int .i64),(.int .i64)]
  |14=>[.str,.str,.bool]|15=>[.str,.str,.bool,(.list (.struct 12)),(.list (.struct 13)),(.list (.struct 14))]
  |16=>[(.int .i64),.str,.str]|17=>[(.int .i64),.str,.str]
  |18=>[(.struct 15),.str,(.ptr 1),(.int .i64),(.mp 3),(.hs 5),(.hs 6),(.list (.struct 16)),(.list (.struct 17)),.bool,.bool]|19=>[.str,.str,.bool,.str]
  |20=>[.str,(.list (.struct 1)),(.list (.struct 1))]|21=>[.str,(.list (.struct 16))]
  |22=>[.str,(.list (.struct 17))]|23=>[.str,(.int .i64),(.list .str),(.list (.struct 15)),(.list (.struct 19)),(.list (.struct 20)),(.list (.struct 21)),(.list (.struct 22))]
  |24=>[.str,.str]|25=>[.str,(.int .i64)]
  |26=>[(.int .i64),.str,(.int .i64),.str,(.list (.struct 24)),(.list (.int .i64)),(.list (.struct 25))]|27=>[(.int .i64),(.list (.struct 26))]
  |28=>[(.int .i64),(.int .i64),(.int .i64),(.int .i64)]|29=>[(.int .i64),(.int .i64),(.int .i64)]
  |30=>[(.mp 1000),(.mp 1000),(.mp 1000),(.mp 1000)]|31=>[.str]
  |32=>[.str,(.int .i64)]|33=>[(.struct 28)]
  |_+34=>[]
noncomputable def UU:(n:Nat)->CC n->HL CC (UF n)
 |0,_=>()|1,x=>(x.kind,x.name,x.num,x.args)
 |2,x=>()|3,x=>()
 |4,x=>(x.u0,x.v)|5,x=>(x.state,x.aeV)
 |6,x=>(x.u0,x.mu)|7,x=>(x.u0,x.done,x.m)
 |8,x=>()|9,x=>(x.u0,x.u1,x.v)
 |10,x=>(x.uH,x.names,x.ready,x.bits,x.asked)|11,x=>(x.e0,x.e1)
 |12,x=>(x.name,x.type)|13,x=>(x.role,x.ab,x.min,x.max)
 |14,x=>(x.role,x.ab,x.ain)|15,x=>(x.name,x.cQ,x.ir,x.aW,x.kids,x.refs)
 |16,x=>(x.kind,x.text,x.mark)|17,x=>(x.kind,x.text,x.mark)
 |18,x=>(x.ab,x.iw,x.up,x.number,x.scopes,x.rules,x.equations,x.cells,x.pieces,x.sq,x.oe)|19,x=>(x.ab,x.name,x.scope,x.expr)
 |20,x=>(x.ab,x.left,x.right)|21,x=>(x.ab,x.cells)
 |22,x=>(x.ab,x.pieces)|23,x=>(x.name,x.version,x.rZ,x.aQ,x.rules,x.equations,x.c8,x.cd)
 |24,x=>(x.name,x.value)|25,x=>(x.role,x.target)
 |26,x=>(x.iD,x.ab,x.parent,x.role,x.aW,x.kids,x.refs)|27,x=>(x.next,x.nodes)
 |28,x=>(x.Z3,x.Z4,x.part,x.err)|29,x=>(x.e0,x.e1,x.e2)
 |30,x=>(x.e0,x.e1,x.e2,x.e3)|31,x=>x.expr
 |32,x=>(x.ab,x.target)|33,x=>x.f
 |_+34,_=>()
noncomputable def UM:(n:Nat)->HL CC (UF n)->CC n
 |0,_=>(default:Hp)|1,y=>(l7.mk y.1 y.2.1 y.2.2.1 y.2.2.2:l7)
 |2,y=>(jT.mk:jT)|3,y=>(jU.mk:jU)
 |4,y=>(Bv.mk y.1 y.2:Bv)|5,y=>(Ae.mk y.1 y.2:Ae)
 |6,y=>(tV.mk y.1 y.2:tV)|7,y=>(Bw.mk y.1 y.2.1 y.2.2:Bw)
 |8,y=>(p9.mk:p9)|9,y=>(Lt.mk y.1 y.2.1 y.2.2:Lt)
 |10,y=>(Fa.mk y.1 y.2.1 y.2.2.1 y.2.2.2.1 y.2.2.2.2:Fa)|11,y=>(dT.mk y.1 y.2:dT)
 |12,y=>(dR.mk y.1 y.2:dR)|13,y=>(cg.mk y.1 y.2.1 y.2.2.1 y.2.2.2:cg)
 |14,y=>(fj.mk y.1 y.2.1 y.2.2:fj)|15,y=>(cN.mk y.1 y.2.1 y.2.2.1 y.2.2.2.1 y.2.2.2.2.1 y.2.2.2.2.2:cN)
 |16,y=>(Cell.mk y.1 y.2.1 y.2.2:Cell)|17,y=>(vo.mk y.1 y.2.1 y.2.2:vo)
 |18,y=>(Entry.mk y.1 y.2.1 y.2.2.1 y.2.2.2.1 y.2.2.2.2.1 y.2.2.2.2.2.1 y.2.2.2.2.2.2.1 y.2.2.2.2.2.2.2.1 y.2.2.2.2.2.2.2.2.1 y.2.2.2.2.2.2.2.2.2.1 y.2.2.2.2.2.2.2.2.2.2:Entry)|19,y=>(rm.mk y.1 y.2.1 y.2.2.1 y.2.2.2:rm)
 |20,y=>(cC.mk y.1 y.2.1 y.2.2:cC)|21,y=>(dw.mk y.1 y.2:dw)
 |22,y=>(cp.mk y.1 y.2:cp)|23,y=>(bT.mk y.1 y.2.1 y.2.2.1 y.2.2.2.1 y.2.2.2.2.1 y.2.2.2.2.2.1 y.2.2.2.2.2.2.1 y.2.2.2.2.2.2.2:bT)
 |24,y=>(IZ.mk y.1 y.2:IZ)|25,y=>(Rf.mk y.1 y.2:Rf)
 |26,y=>(Nd.mk y.1 y.2.1 y.2.2.1 y.2.2.2.1 y.2.2.2.2.1 y.2.2.2.2.2.1 y.2.2.2.2.2.2:Nd)|27,y=>(dX.mk y.1 y.2:dX)
 |28,y=>(ia.mk y.1 y.2.1 y.2.2.1 y.2.2.2:ia)|29,y=>(NT.mk y.1 y.2.1 y.2.2:NT)
 |30,y=>(NU.mk y.1 y.2.1 y.2.2.1 y.2.2.2:NU)|31,y=>(Em.mk y:Em)
 |32,y=>(nb.mk y.1 y.2:nb)|33,y=>(l8.mk y:l8)
 |_+34,_=>()
noncomputable def UA:Nat->AK
 |0=>.obj (.struct 10)|1=>.obj (.struct 18)
 |2=>.map .str (.ptr 1)|3=>.map .str (.struct 31)
 |4=>.aT .str 9|5=>.aT (.struct 19) 154
 |6=>.aT (.struct 20) 163|7=>.map .str (.struct 15)
 |8=>.obj (.int .i64)|9=>.aT (.struct 11) 267
 |10=>.aT (.struct 32) 81|_+11=>.obj .bool
noncomputable def UG:(k:Nat)->CC 0->List (zu CC (UA k))
 |0,h=>h.gz|1,h=>h.eQ
 |2,h=>h.mj|3,h=>h.By
 |4,h=>h.Af|5,h=>h.I7
 |6,h=>h.eqs|7,h=>h.all
 |8,h=>h.En|9,h=>h.oS
 |10,h=>h.ja|_+11,_=>[]
noncomputable def US:(k:Nat)->CC 0->List (zu CC (UA k))->CC 0
 |0,h,l=>{h with gz:=l}|1,h,l=>{h with eQ:=l}
 |2,h,l=>{h with mj:=l}|3,h,l=>{h with By:=l}
 |4,h,l=>{h with Af:=l}|5,h,l=>{h with I7:=l}
 |6,h,l=>{h with eqs:=l}|7,h,l=>{h with all:=l}
 |8,h,l=>{h with En:=l}|9,h,l=>{h with oS:=l}
 |10,h,l=>{h with ja:=l}|_+11,h,_=>h
noncomputable def U:cm:={C:=CC,fields:=UF,un:=UU,make:=UM,ak:=UA,get:=UG,set:=US,nk:=11,em:=λk=>iM k [10]}
noncomputable def BB:Ei:={ty:=[(2,(.int .i64)),(3,(.int .i64)),(4,.bool),(5,(.int .u8)),(9,.str),(21,(.int .i32)),(22,(.list (.struct 23))),(23,(.list (.struct 26))),(25,(.struct 27)),(31,(.list (.struct 32))),(35,(.int .i64)),(43,(.list .str)),(44,(.list (.struct 15))),(45,(.list (.struct 19))),(46,(.list (.struct 20))),(47,(.list (.struct 21))),(48,(.list (.struct 22))),(50,(.struct 23)),(52,(.struct 28)),(56,(.list (.struct 24))),(57,(.list (.int .i64))),(58,(.list (.struct 25))),(60,(.struct 26)),(65,(.struct 13)),(81,(.struct 32)),(87,(.int .u32)),(89,(.struct 4)),(91,(.struct 5)),(93,(.struct 6)),(95,(.struct 7)),(96,(.list (.struct 11))),(99,(.struct 9)),(101,(.struct 10)),(104,(.ref (.struct 28))),(112,(.list (.struct 12))),(113,(.list (.struct 13))),(114,(.list (.struct 14))),(116,(.struct 15)),(126,(.struct 24)),(128,(.struct 25)),(137,(.list (.struct 16))),(138,(.list (.struct 17))),(140,(.struct 18)),(143,(.list (.ptr 1))),(146,(.struct 12)),(148,(.struct 14)),(149,(.list (.list .str))),(150,(.struct 29)),(154,(.struct 19)),(161,(.list (.struct 1))),(163,(.struct 20)),(169,(.struct 21)),(173,(.struct 16)),(177,(.struct 22)),(180,(.struct 17)),(182,(.struct 30)),(185,(.int .u64)),(196,(.list .bool)),(212,(.struct 33)),(244,(.struct 31)),(256,(.int .u64)),(264,(.list (.int .u8))),(267,(.struct 11)),(276,(.struct 1)),(27,(.ptr 0)),(83,(.mp 2)),(135,(.ptr 1)),(136,(.mp 3)),(142,(.mp 7))],elem:=[(22,50),(23,60),(31,81),(43,9),(44,116),(45,154),(46,163),(47,169),(48,177),(56,126),(57,3),(58,128),(96,267),(112,146),(113,65),(114,148),(137,173),(138,180),(143,135),(149,43),(161,276),(196,4),(264,5)],bytes:=[(2,8),(3,8),(4,1),(5,1),(9,16),(21,4),(22,24),(23,24),(25,32),(31,24),(35,8),(43,24),(44,24),(45,24),(46,24),(47,24),(48,24),(50,168),(52,32),(56,24),(57,24),(58,24),(60,120),(65,48),(81,24),(87,4),(89,4),(91,8),(93,8),(95,12),(96,24),(99,8),(101,80),(104,8),(112,24),(113,24),(114,24),(116,112),(126,32),(128,24),(137,24),(138,24),(140,256),(143,24),(146,24),(148,40),(149,24),(150,24),(154,56),(161,24),(163,64),(169,40),(173,40),(177,40),(180,40),(182,32),(185,8),(196,24),(212,32),(244,16),(256,8),(264,24),(267,16),(276,56),(27,8),(83,8),(135,8),(136,8),(142,8)],M3:=[103],Tr:=[102,296],mq:=[(150,3),(182,159),(267,256)]}
noncomputable abbrev XB (N:Nat) (mA:List (Nat×List (ca U))):Ctx U:=BB.ctx N mA
noncomputable abbrev PP:Program:=Go.Proofs.Tryz.prog
noncomputable def TT:da CC:=yq U (abG U) 35
theorem Ih:∀n x,U.un n (U.make n x)=x
 |0,_=>rfl|1,_=>rfl
 |2,_=>rfl|3,_=>rfl
 |4,_=>rfl|5,_=>rfl
 |6,_=>rfl|7,_=>rfl
 |8,_=>rfl|9,_=>rfl
 |10,_=>rfl|11,_=>rfl
 |12,_=>rfl|13,_=>rfl
 |14,_=>rfl|15,_=>rfl
 |16,_=>rfl|17,_=>rfl
 |18,_=>rfl|19,_=>rfl
 |20,_=>rfl|21,_=>rfl
 |22,_=>rfl|23,_=>rfl
 |24,_=>rfl|25,_=>rfl
 |26,_=>rfl|27,_=>rfl
 |28,_=>rfl|29,_=>rfl
 |30,_=>rfl|31,_=>rfl
 |32,_=>rfl|33,_=>rfl
 |_+34,_=>rfl
theorem Ye:∀n,(UF n).all (below n)=true:=
 λn=>if h:n<34 then rY (f:=λn=>(UF n).all (below n)) (n:=34) (by kernel_rfl) n h else by
  obtain⟨m,rfl⟩:=Eo (Nat.le_of_not_lt h)
  (rw[jo])<;>rfl
theorem aio:∀n,(UF n).all fg=true:=
 λn=>if h:n<34 then rY (f:=λn=>(UF n).all fg) (n:=34) (by kernel_rfl) n h else by
  obtain⟨m,rfl⟩:=Eo (Nat.le_of_not_lt h)
  (rw[jo])<;>rfl
theorem abK:∀n,eW U D (.struct n)=true:=
 λn=>if h:n<34 then rY (f:=λn=>eW U D (.struct n)) (n:=34) (by kernel_rfl) n h else by
  obtain⟨m,rfl⟩:=Eo (Nat.le_of_not_lt h)
  (rw[jo])<;>rfl
theorem aeW:∀n,34<=n->UF n=[]:=λn h=>by
 obtain⟨m,rfl⟩:=Eo h
 (rw[jo])<;>rfl
theorem aeX:∀k,11<=k->UA k=.obj .bool:=λk h=>by
 obtain⟨m,rfl⟩:=Eo h
 (rw[jo])<;>rfl
theorem Ch:∀(k:Nat)(h:CC 0)(l:List (zu CC (UA k))),k<11->UG k (US k h l)=l
 |0,_,_,_=>rfl|1,_,_,_=>rfl
 |2,_,_,_=>rfl|3,_,_,_=>rfl
 |4,_,_,_=>rfl|5,_,_,_=>rfl
 |6,_,_,_=>rfl|7,_,_,_=>rfl
 |8,_,_,_=>rfl|9,_,_,_=>rfl
 |10,_,_,_=>rfl|_+11,_,_,h=>by omega
theorem Ii:∀(k:Nat)(h h':CC 0),11<=k->UG k h=UG k h'
 |0,_,_,h=>by omega|1,_,_,h=>by omega
 |2,_,_,h=>by omega|3,_,_,h=>by omega
 |4,_,_,h=>by omega|5,_,_,h=>by omega
 |6,_,_,h=>by omega|7,_,_,h=>by omega
 |8,_,_,h=>by omega|9,_,_,h=>by omega
 |10,_,_,h=>by omega|_+11,_,_,_=>rfl
theorem uz:∀(k k':Nat)(h:CC 0)(l:List (zu CC (UA k))),k'≠k->UG k' (US k h l)=UG k' h
 |0,0,_,_,h=>(h rfl).elim|0,1,_,_,_=>rfl
 |0,2,_,_,_=>rfl|0,3,_,_,_=>rfl
 |0,4,_,_,_=>rfl|0,5,_,_,_=>rfl
 |0,6,_,_,_=>rfl|0,7,_,_,_=>rfl
 |0,8,_,_,_=>rfl|0,9,_,_,_=>rfl
 |0,10,_,_,_=>rfl|0,_+11,_,_,_=>rfl
 |1,0,_,_,_=>rfl|1,1,_,_,h=>(h rfl).elim
 |1,2,_,_,_=>rfl|1,3,_,_,_=>rfl
 |1,4,_,_,_=>rfl|1,5,_,_,_=>rfl
 |1,6,_,_,_=>rfl|1,7,_,_,_=>rfl
 |1,8,_,_,_=>rfl|1,9,_,_,_=>rfl
 |1,10,_,_,_=>rfl|1,_+11,_,_,_=>rfl
 |2,0,_,_,_=>rfl|2,1,_,_,_=>rfl
 |2,2,_,_,h=>(h rfl).elim|2,3,_,_,_=>rfl
 |2,4,_,_,_=>rfl|2,5,_,_,_=>rfl
 |2,6,_,_,_=>rfl|2,7,_,_,_=>rfl
 |2,8,_,_,_=>rfl|2,9,_,_,_=>rfl
 |2,10,_,_,_=>rfl|2,_+11,_,_,_=>rfl
 |3,0,_,_,_=>rfl|3,1,_,_,_=>rfl
 |3,2,_,_,_=>rfl|3,3,_,_,h=>(h rfl).elim
 |3,4,_,_,_=>rfl|3,5,_,_,_=>rfl
 |3,6,_,_,_=>rfl|3,7,_,_,_=>rfl
 |3,8,_,_,_=>rfl|3,9,_,_,_=>rfl
 |3,10,_,_,_=>rfl|3,_+11,_,_,_=>rfl
 |4,0,_,_,_=>rfl|4,1,_,_,_=>rfl
 |4,2,_,_,_=>rfl|4,3,_,_,_=>rfl
 |4,4,_,_,h=>(h rfl).elim|4,5,_,_,_=>rfl
 |4,6,_,_,_=>rfl|4,7,_,_,_=>rfl
 |4,8,_,_,_=>rfl|4,9,_,_,_=>rfl
 |4,10,_,_,_=>rfl|4,_+11,_,_,_=>rfl
 |5,0,_,_,_=>rfl|5,1,_,_,_=>rfl
 |5,2,_,_,_=>rfl|5,3,_,_,_=>rfl
 |5,4,_,_,_=>rfl|5,5,_,_,h=>(h rfl).elim
 |5,6,_,_,_=>rfl|5,7,_,_,_=>rfl
 |5,8,_,_,_=>rfl|5,9,_,_,_=>rfl
 |5,10,_,_,_=>rfl|5,_+11,_,_,_=>rfl
 |6,0,_,_,_=>rfl|6,1,_,_,_=>rfl
 |6,2,_,_,_=>rfl|6,3,_,_,_=>rfl
 |6,4,_,_,_=>rfl|6,5,_,_,_=>rfl
 |6,6,_,_,h=>(h rfl).elim|6,7,_,_,_=>rfl
 |6,8,_,_,_=>rfl|6,9,_,_,_=>rfl
 |6,10,_,_,_=>rfl|6,_+11,_,_,_=>rfl
 |7,0,_,_,_=>rfl|7,1,_,_,_=>rfl
 |7,2,_,_,_=>rfl|7,3,_,_,_=>rfl
 |7,4,_,_,_=>rfl|7,5,_,_,_=>rfl
 |7,6,_,_,_=>rfl|7,7,_,_,h=>(h rfl).elim
 |7,8,_,_,_=>rfl|7,9,_,_,_=>rfl
 |7,10,_,_,_=>rfl|7,_+11,_,_,_=>rfl
 |8,0,_,_,_=>rfl|8,1,_,_,_=>rfl
 |8,2,_,_,_=>rfl|8,3,_,_,_=>rfl
 |8,4,_,_,_=>rfl|8,5,_,_,_=>rfl
 |8,6,_,_,_=>rfl|8,7,_,_,_=>rfl
 |8,8,_,_,h=>(h rfl).elim|8,9,_,_,_=>rfl
 |8,10,_,_,_=>rfl|8,_+11,_,_,_=>rfl
 |9,0,_,_,_=>rfl|9,1,_,_,_=>rfl
 |9,2,_,_,_=>rfl|9,3,_,_,_=>rfl
 |9,4,_,_,_=>rfl|9,5,_,_,_=>rfl
 |9,6,_,_,_=>rfl|9,7,_,_,_=>rfl
 |9,8,_,_,_=>rfl|9,9,_,_,h=>(h rfl).elim
 |9,10,_,_,_=>rfl|9,_+11,_,_,_=>rfl
 |10,0,_,_,_=>rfl|10,1,_,_,_=>rfl
 |10,2,_,_,_=>rfl|10,3,_,_,_=>rfl
 |10,4,_,_,_=>rfl|10,5,_,_,_=>rfl
 |10,6,_,_,_=>rfl|10,7,_,_,_=>rfl
 |10,8,_,_,_=>rfl|10,9,_,_,_=>rfl
 |10,10,_,_,h=>(h rfl).elim|10,_+11,_,_,_=>rfl
 |_+11,_,_,_,_=>rfl
theorem LL:Lawful U TT:=RF (top:=34) Ih Ye aio abK aeW Ch (by decide) Ii uz
theorem abL:z8 PP U BB=true:=by kernel_rfl
theorem SS:NO PP U TT BB:=⟨LL,by kernel_rfl,abL,aeX⟩
noncomputable def Holds (f:Nat) (c:ca U):Prop:=∀E:Env,(∀i,E.ro i=none)->kZ PP E TT (BB.ctx 0 []) f c
abbrev Cp:Ty:=.struct 1
abbrev ae2:Nat:=10
abbrev NV:Ty:=.struct 10
abbrev afd:Nat:=8
abbrev afe:Nat:=9
noncomputable def Pv:Hp:=⟨[],[],[],[],[],[],[],[],[],[],[]⟩
theorem Pw:∀k,k<U.nk->U.get k Pv=[]
 |0,_=>rfl|1,_=>rfl
 |2,_=>rfl|3,_=>rfl
 |4,_=>rfl|5,_=>rfl
 |6,_=>rfl|7,_=>rfl
 |8,_=>rfl|9,_=>rfl
 |10,_=>rfl|_+11,h=>absurd h (Nat.not_lt.2 (Nat.le_add_left _ _))
abbrev Ag(mA:List (Nat×List (ca U))):Prop:=∀E:Env,(∀i,E.ro i=none)->Cons PP E TT BB mA
theorem nl:Ag []:=λ_ _=>.nil
theorem cn{f:Nat}{c:ca U}{mA:List (Nat×List (ca U))}(h:Holds f c)(hc:Ag mA):Ag ((f,[c])::mA):=λE hE=>.cons (h E hE) (hc E hE)
section
variable{f:Nat}{ps:List Ty}{rs:List RK}{cG:Option (Nat×Ty)}{mA:List (Nat×List (ca U))}
theorem gP(N:Nat)(fn:Func)(hint:Hint)(hc:Ag mA)(esc:List (Nat×Nat):=[]){F:HL U.C ps->Option (iG U cG (HL U.C (rs.map RK.ty)))}(hf:PP.funcs[f]?=some fn:=by kernel_rfl)(hk:tT fn ps.length=true:=by kernel_rfl)(hr:na BB rs cG=true:=by kernel_rfl)
  (hF:∀x h,Gm (BB.ctx N mA) ps rs cG esc fn.results.toList (fn.body.getD .skip) hint x h=F x:=by intros;kernel_rfl):Holds f ⟨ps,rs,cG,.pure F⟩:=
 λE hE=>aeN SS hE (default:Hp) fn ⟨ps,rs,cG,.pure F⟩ N esc hint (hc E hE) F hf hk hr hF
theorem gS(N:Nat)(fn:Func)(hint:Hint)(hc:Ag mA)(esc:List (Nat×Nat):=[]){F:HL U.C ps->U.C 0->Option (iG U cG (HL U.C (rs.map RK.ty))×U.C 0)}(hf:PP.funcs[f]?=some fn:=by kernel_rfl)(hk:tT fn ps.length=true:=by kernel_rfl)(hr:na BB rs cG=true:=by kernel_rfl)
  (hF:∀x h,Dx (BB.ctx N mA) ps rs cG esc fn.results.toList (fn.body.getD .skip) hint x h=F x h:=by intros;kernel_rfl):Holds f ⟨ps,rs,cG,.st F⟩:=
 λE hE=>Z1 SS hE fn ⟨ps,rs,cG,.st F⟩ N esc hint (hc E hE) F hf hk hr hF
theorem gM(N:Nat)(fn:Func)(hint:Hint)(hc:Ag mA)(esc:List (Nat×Nat):=[]){F:HL U.C ps->U.C 0->Option (iG U cG (HL U.C (rs.map RK.ty))×U.C 0)}(hf:PP.funcs[f]?=some fn:=by kernel_rfl)(hk:tT fn ps.length=true:=by kernel_rfl)(hr:na BB rs cG=true:=by kernel_rfl)
  (hF:∀x h,IU (BB.ctx N mA) ps rs cG esc fn.results.toList (fn.body.getD .skip) hint x h=F x h:=by intros;kernel_rfl):Holds f ⟨ps,rs,cG,.st F⟩:=
 λE hE=>aeO SS hE fn ⟨ps,rs,cG,.st F⟩ N esc hint (hc E hE) F hf hk hr hF
end
end Go.Proofs.Mo
namespace Go.Proofs.Mo
open Go Go.Ev Go.X
open Go.IntKind renaming i64->Wk
def Yf(N:Nat):(List Int)×(Int->Hp->Option (Bool×Hp))->Hp->Option (Int×Hp):=λ(c,e) h=>aM (λ((_,f):Unit×Hp)=>some ((-1),f)) λg=>aE (λi((a,d):Int×Hp)=>bif a<c.length then(aA c a).bind λj=>(e j d).bind λb=>bif b.1 then some (a,b.2)else i (Wk.wrap (a+1),b.2)else g ((),d)) N (0,h)
abbrev aiz(N:Nat):ca U:=⟨[(.list .I),(.rJ .I .bool)],[.v .I],none,.st (Yf N)⟩
theorem aiA(N:Nat):Holds 216 (aiz N):=gS N Tryz.f216 (.q (.seq (some ⟨true,[],[],[],[]⟩) (.q (.block (.loop ⟨true,[0,1,7],[(8,.val .I)],[],[]⟩ .leaf))) .leaf)) nl
def Yg(N:Nat):(List Int)×(Int->Hp->Option (Bool×Hp))->Hp->Option (Bool×Hp):=λ(b,c) h=>(Yf N (b,c) h).bind λa=>some ((decide (0<=a.1)),a.2)
abbrev aiB(N:Nat):ca U:=⟨[(.list .I),(.rJ .I .bool)],[.v .bool],none,.st (Yg N)⟩
theorem aiC(N:Nat):Holds 208 (aiB N):=gS N Tryz.f208 .leaf (cn (aiA N) nl)
def Yh(N:Nat):Int×(Int->Hp->Option (Bool×Hp))->Hp->Option (Bool×Hp):=λ(b,c) h=>(c b h).bind λa=>some ((!a.1),a.2)
abbrev aiD(N:Nat):ca U:=⟨[.I,(.mz .I .bool)],[.v .bool],none,.st (Yh N)⟩
theorem aiE(N:Nat):Holds 209 (aiD N):=gS N Tryz.f209 .leaf nl
def Yi(N:Nat):Int×(Option Nat)×(List l7)×(Int->Hp->Option (Bool×Hp))->Hp->Option (Bool×Hp):=λ(a,b,c,f) h=>
 b.bind λg=>
 (h.En[g]?).bind λi=>
 bif !(a==i)then some (false,h)
 else
  bif (c.length:Int)<=a then some (false,h)
  else
   b.bind λj=>
   (h.En[j]?).bind λk=>
   b.bind λd=>
   (h.En[d]?).bind λp=>
   cP {h with En:=h.En.set d (Wk.wrap (k+1))} λl=>
   (aA c a).bind λm=>
   (Yg N (m.args,λn o=>Yh N (n,f) o) l).bind λe=>
   some ((!e.1),e.2)
abbrev aiF(N:Nat):ca U:=⟨[.I,(.ptr 8),(.cell (.list (.struct 1))),(.mz .I .bool)],[.v .bool],none,.st (Yi N)⟩
theorem aiG(N:Nat):Holds 207 (aiF N):=gS N Tryz.f207 .leaf (cn (aiC N) (cn (aiE N) nl))
end Go.Proofs.Mo
namespace Go.Proofs.Mo
open Go Go.Ev Go.X
def Lu(N:Nat)(p:Option Nat)(l:List l7):Nat->Int->Hp->Option (Bool×Hp)
 |0=>λ_ _=>none|n+1=>λi h=>Yi N (i,p,l,Lu N p l n) h
def Lv(N:Nat):List l7->Hp->Option (Bool×Hp):=λa0 h=>
 cP {h with En:=h.En++[0]} λh1=>
 (some h.En.length).bind λi2=>
 (h1.En[i2]?).bind λe3=>
 cP {h1 with En:=h1.En.set i2 0} λh4=>
 (Lu N (some h.En.length) a0 N 0 h4).bind λy5=>
 bif y5.1 then
  (some h.En.length).bind λi6=>
  (y5.2.En[i6]?).bind λe7=>
  some (e7==(a0.length:Int),y5.2)
 else some (false,y5.2)
abbrev Ep:Ty:=.list Cp
abbrev Yj:Ty:=.ptr afd
noncomputable def Px (N:Nat) (s:S U.C):Option (Int->Hp->Option (Bool×Hp)):=match s.look 3,s.look 1 with
 |.val t p,.dn t' l 0=>match eV t Yj p,eV t' Ep l with
  |some p,some l=>some (Lu N p l N)|_,_=>none
 |_,_=>none
noncomputable def Cq:Code:=Tryz.f188.body.getD .skip
noncomputable abbrev U9 (N:Nat):Ctx U:=XB N []
theorem aff(N:Nat)(x:HL U.C [Ep])(h:U.C 0):Uo [Ep] [.v .bool] none (U9 N) Tryz.f188.results.toList (U5 (U9 N) [(1,998),(3,8)] 2 Cq 4 5 (.int .i64) .bool (Px N) .leaf) x h=Lv N x h:=by kernel_rfl
theorem Py{E:Env}(hE:∀i,E.ro i=none)(N:Nat)(p:Option Nat)(l:List l7)(B:Nat):∀n,mT (U:=U) PP E TT (.mz (.int .i64) .bool) (Lu N p l n) (tU B 207 [enc TT Yj p,enc TT (.cell Ep) l] (n+1))
 |0=>⟨207,_,rfl,λx h y h' hx=>by cases hx⟩
 |n+1=>⟨207,_,rfl,λx h y h' hx aX ha A V hH=>by obtain⟨_,rfl⟩:=ha;exact(aiG N E hE).tG (x,p,l,Lu N p l n) h _ y h' A V ⟨_,_,rfl,⟨rfl,rfl⟩,_,_,rfl,⟨rfl,rfl⟩,_,_,rfl,⟨rfl,rfl⟩,_,_,rfl,Py hE N p l B n,rfl⟩ hH hx⟩
theorem Lw{a b:Ty}{x:den CC a}{y:den CC b}(h:eV a b x=some y):∃e:a=b,y=e▸x:=bH h
theorem Va{E:Env}(hE:∀i,E.ro i=none){N n:Nat}(hn:4<n){X:Ctx U}{s1:S U.C}{q1:St}{φ:Int->Hp->Option (Bool×Hp)}(hS:aN PP E TT X s1 q1)(h:Px N s1=some φ):
  ∃aX M,aX.length=[3,1].length/\(∀(j t:Nat),[3,1][j]?=some t->t<n/\t≠4/\∃av,aX[j]?=some av/\q1.r t=.val av)/\∀B,mT (U:=U) PP E TT (.mz (.int .i64) .bool) φ (tU B 207 aX M):=by
 unfold Px at h;split at h
 ·rename_i t p t' l h3 h1;split at h
  ·rename_i p' l' hp hl;obtain⟨e,rfl⟩:=Lw hp;subst e;obtain⟨e,rfl⟩:=Lw hl;subst e;simp only[ah]at h;subst h;have r3:=hS.cr 3;have r1:=hS.cr 1;rw[h3]at r3;rw[h1]at r1;generalize hq3:q1.r 3=u3 at r3;generalize Jy:q1.r 1=u1 at r1;cases r3 with
   |val _ _ _ av hq hv=>
    cases r1 with
    |dn _ _ _ ho=>
     obtain⟨_,rfl⟩:=hv;have e3:u3=.val (enc TT Yj p):=by
      change Option Nat at p;cases p with
      |none=>exact dp hq|some i=>exact uC hq
     refine⟨[enc TT Yj p,enc TT (.cell Ep) l],N+1,rfl,λj t hj=>?_,λB=>Py hE N p l B N⟩;match j,hj with
     |0,hj=>cases hj;exact ⟨by omega,by decide,_,rfl,hq3.trans e3⟩
     |1,hj=>cases hj;exact ⟨by omega,by decide,_,rfl,by rw[Jy];rfl⟩
     |j+2,hj=>simp at hj
  ·cases h
 ·cases h
noncomputable def Vb (i j:Nat):Oper:=match RH (qk i Cq)with|.region _ ops _=>ops.getD j default|_=>default
theorem afg(N:Nat)(E:Env)(hE:∀i,E.ro i=none):pn (U:=U) PP E TT 188 [Ep] [.v .bool] none (.st (Lv N)):=by have hX:∀E:Env,(∀i,E.ro i=none)->bG PP E TT (U9 N):=λE hE=>Ej SS.El SS.ak hE .nil;refine ND SS.L (X:=U9 N) (ex:=U5 (U9 N) [(1,998),(3,8)] 2 Cq 4 5 (.int .i64) .bool (Px N) .leaf) (fn:=Tryz.f188) (c:=Cq) (hX E hE) (by kernel_rfl) (by kernel_rfl) (by kernel_rfl) (by decide) (by kernel_rfl) (λA I1 w0 I0 sB r kx Z Un hZ s k q Q hL h hS hQ=>?_) (aff N);obtain⟨zi,z,hz,AE,J4⟩:=NR (P:=PP) (e:=296) (by kernel_rfl);exact U6 SS.L SS.mo Un (λ_=>rfl) hZ (f:=207) (i1:=2) (i2:=3) (e:=296) (o1:=Vb 2 0) (o2:=Vb 3 0) (o3:=Vb 3 1) (ts:=[3,1]) (by kernel_rfl) hz AE J4 (by kernel_rfl) (by kernel_rfl) (by kernel_rfl) (by kernel_rfl) (by kernel_rfl) (by kernel_rfl) (by kernel_rfl) (by kernel_rfl) (by kernel_rfl) (by kernel_rfl) (by decide) (by decide) (by decide) (λs1 q1 φ h1 h2=>Va (λ_=>rfl) (by decide) h1 h2) (by kernel_rfl) s k q Q hL h hS hQ
def Yk(N:Nat):List l7->Option Bool:=λl=>(Lv N l Pv).map Prod.fst
abbrev aiH(N:Nat):ca U:=⟨[Ep],[.v .bool],none,.pure (Yk N)⟩
theorem aiI(N:Nat):Holds 188 (aiH N):=λE hE=>jD (by kernel_rfl) (NQ (U:=U) (afg N E hE) (h0:=Pv) Pw (λx aX ha a hm=>by
 obtain⟨a',r,rfl,⟨_,rfl⟩,rfl⟩:=ha;simp only[mX]at hm;subst hm;show wC (List.map (enc TT Cp) x)=true;refine yu λv hv=>?_;obtain⟨y,_,rfl⟩:=cK.1 hv;show wC (enc TT Cp y).cells=true;have:(enc TT Cp y).cells=[.fl (.int .i64 y.kind),.fl (bs y.name),.fl (.int .i64 y.num),.sl (y.args.map (enc TT (.int .i64)))]:=rfl;rw[this];simp only[wC,AV.G0,nO,Bool.and_true];exact yu λv hv=>by obtain ⟨n,_,rfl⟩:=cK.1 hv;rfl) λy r hr=>by
 simp only[cB,mX]at hr;subst hr;rfl)
end Go.Proofs.Mo
namespace Go.Proofs.Mo
open Go Go.Ev Go.X
open Go.IntKind renaming i64->Wk
def sD(N:Nat):Bool×ia->Option (Except l8 Unit):=λ(a,b)=>bif !a then some (Except.error (l8.mk b))else some (Except.ok ())
abbrev afh(N:Nat):ca U:=⟨[.bool,(.struct 28)],[],(some (212,(.struct 33))),.pure (sD N)⟩
theorem NW(N:Nat):Holds 124 (afh N):=gP N Tryz.f124 .leaf nl
def Vc(N:Nat):Int->Option Bool:=λa=>bif 65<=a then bif a<=90 then some true else bif 97<=a then some (decide (a<=122))else some false else bif 97<=a then some (decide (a<=122))else some false
abbrev aiJ(N:Nat):ca U:=⟨[(.int .u8)],[.v .bool],none,.pure (Vc N)⟩
theorem aiK(N:Nat):Holds 179 (aiJ N):=gP N Tryz.f179 .leaf nl
def pJ(N:Nat):bE->Option Bool:=λb=>bif (b.length:Int)==0 then some false else bif 32<(b.length:Int)then some false else(aA b 0).bind λe=>(Vc N (e.toNat:Int)).bind λf=>bif !f then some false else aM (λ(_:Unit×Unit)=>some true) λg=>aE (λd((a,_):Int×Unit)=>bif a<b.length then(aA b a).bind λc=>(Vc N (c.toNat:Int)).bind λi=>bif !i then bif (c.toNat:Int)<48 then bif !((c.toNat:Int)==95)then some false else d (Wk.wrap (a+1),())else bif 57<(c.toNat:Int)then bif !((c.toNat:Int)==95)then some false else d (Wk.wrap (a+1),())else d (Wk.wrap (a+1),())else d (Wk.wrap (a+1),())else g ((),())) N (0,())
abbrev afi(N:Nat):ca U:=⟨[.str],[.v .bool],none,.pure (pJ N)⟩
theorem NX(N:Nat):Holds 125 (afi N):=gP N Tryz.f125 (.q (.q (.J (.W [0,20] [(21,.val .I)]) .leaf))) (cn (aiK N) nl)
def abS(N:Nat):Int×Int×(List bE)×((Int×bE)->Option (Int×Int))->Option (Except l8 Unit):=λ(c,e,d,f)=>aE (λg((a,_):Int×Unit)=>bif a<d.length then(aA d a).bind λi=>(sD N (decide (a<e),ia.mk c a 0 4)).bind λj=>B1 j (λk=>some (Except.error k)) λn=>(f (a,i)).bind λb=>(sD N (b.2==0,ia.mk c a b.1 b.2)).bind λl=>B1 l (λm=>some (Except.error m)) λo=>g (Wk.wrap (a+1),())else some (Except.ok ())) N (0,())
abbrev afj(N:Nat):ca U:=⟨[.I,.I,(.list .str),(.fn (.pair .I .str) (.pair .I .I))],[],(some (212,(.struct 33))),.pure (abS N)⟩
theorem aiL(N:Nat):Holds 126 (afj N):=gP N Tryz.f126 (.W [0,1,3,12,13] [(14,.val .I)]) (cn (NW N) nl)
def Ym(N:Nat):(List bE)×bE->Option Int:=λ(b,c)=>aM (λ(_:Unit×Unit)=>some (-1)) λd=>aE (λe((a,_):Int×Unit)=>bif a<b.length then(aA b a).bind λf=>bif c==f then some a else e (Wk.wrap (a+1),())else d ((),())) N (0,())
abbrev aiM(N:Nat):ca U:=⟨[(.list .str),.str],[.v .I],none,.pure (Ym N)⟩
theorem aiN(N:Nat):Holds 151 (aiM N):=gP N Tryz.f151 (.q (.J (.W [0,1,7] [(8,.val .I)]) .leaf)) nl
def F72(N:Nat):(List bE)×bE->Option Bool:=λ(a,b)=>(Ym N (a,b)).bind λc=>some (decide (0<=c))
abbrev K72(N:Nat):ca U:=⟨[(.list .str),.str],[.v .bool],none,.pure (F72 N)⟩
theorem G72(N:Nat):Holds 72 (K72 N):=gP N Tryz.f72 .leaf (cn (aiN N) nl)
def RL(N:Nat):Bool->Option Int:=λa=>bif a then some 40 else some 0
abbrev aiO(N:Nat):ca U:=⟨[.bool],[.v .I],none,.pure (RL N)⟩
theorem afk(N:Nat):Holds 128 (aiO N):=gP N Tryz.f128 .leaf nl
def Yn(N:Nat):Int×bE×bT->Option (Int×Int):=λ(a,b,c)=>(pJ N b).bind λd=>bif !d then some (0,2)else bif b==c.name then(RL N true).bind λe=>some (0,e)else(db (decide (0<=a)&&decide (a.toNat<=c.rZ.length))).bind λ_=>(F72 N (c.rZ.take a.toNat,b)).bind λf=>(RL N f).bind λg=>some (0,g)
abbrev afl(N:Nat):ca U:=⟨[.I,.str,(.cell (.struct 23))],[.v .I,.v .I],none,.pure (Yn N)⟩
theorem aiP(N:Nat):Holds 127 (afl N):=gP N Tryz.f127 .leaf (cn (G72 N) (cn (NX N) (cn (afk N) nl)))
def abT(N:Nat):Int×Int×(List cN)×((Int×cN)->Option (Int×Int))->Option (Except l8 Unit):=λ(c,e,d,f)=>aE (λg((a,_):Int×Unit)=>bif a<d.length then(aA d a).bind λi=>(sD N (decide (a<e),ia.mk c a 0 4)).bind λj=>B1 j (λk=>some (Except.error k)) λn=>(f (a,i)).bind λb=>(sD N (b.2==0,ia.mk c a b.1 b.2)).bind λl=>B1 l (λm=>some (Except.error m)) λo=>g (Wk.wrap (a+1),())else some (Except.ok ())) N (0,())
abbrev afm(N:Nat):ca U:=⟨[.I,.I,(.list (.struct 15)),(.fn (.pair .I (.struct 15)) (.pair .I .I))],[],(some (212,(.struct 33))),.pure (abT N)⟩
theorem aiQ(N:Nat):Holds 129 (afm N):=gP N Tryz.f129 (.W [0,1,3,12,13] [(14,.val .I)]) (cn (NW N) nl)
def abU(N:Nat):(List fj)×(fj->Option Bool)->Option Int:=λ(b,c)=>aM (λ(_:Unit×Unit)=>some (-1)) λd=>aE (λe((a,_):Int×Unit)=>bif a<b.length then(aA b a).bind λf=>(c f).bind λg=>bif g then some a else e (Wk.wrap (a+1),())else d ((),())) N (0,())
abbrev aiR(N:Nat):ca U:=⟨[(.list (.struct 14)),(.fn (.struct 14) .bool)],[.v .I],none,.pure (abU N)⟩
theorem aiS(N:Nat):Holds 191 (aiR N):=gP N Tryz.f191 (.q (.J (.W [0,1,7] [(8,.val .I)]) .leaf)) nl
def RM(N:Nat):(List fj)×(fj->Option Bool)->Option Bool:=λ(a,b)=>(abU N (a,b)).bind λc=>some (decide (0<=c))
abbrev aiT(N:Nat):ca U:=⟨[(.list (.struct 14)),(.fn (.struct 14) .bool)],[.v .bool],none,.pure (RM N)⟩
theorem afn(N:Nat):Holds 153 (aiT N):=gP N Tryz.f153 .leaf (cn (aiS N) nl)
def abV(N:Nat):(List cN)×(cN->Option Bool)->Option Int:=λ(b,c)=>aM (λ(_:Unit×Unit)=>some (-1)) λd=>aE (λe((a,_):Int×Unit)=>bif a<b.length then(aA b a).bind λf=>(c f).bind λg=>bif g then some a else e (Wk.wrap (a+1),())else d ((),())) N (0,())
abbrev aiU(N:Nat):ca U:=⟨[(.list (.struct 15)),(.fn (.struct 15) .bool)],[.v .I],none,.pure (abV N)⟩
theorem aiV(N:Nat):Holds 204 (aiU N):=gP N Tryz.f204 (.q (.J (.W [0,1,7] [(8,.val .I)]) .leaf)) nl
def Yo(N:Nat):(List cN)×(cN->Option Bool)->Option Bool:=λ(a,b)=>(abV N (a,b)).bind λc=>some (decide (0<=c))
abbrev aiW(N:Nat):ca U:=⟨[(.list (.struct 15)),(.fn (.struct 15) .bool)],[.v .bool],none,.pure (Yo N)⟩
theorem aiX(N:Nat):Holds 180 (aiW N):=gP N Tryz.f180 .leaf (cn (aiV N) nl)
def abW(N:Nat):cN×cN->Option Bool:=λ(a,b)=>some (a.name==b.name)
abbrev aiY(N:Nat):ca U:=⟨[(.struct 15),(.cell (.struct 15))],[.v .bool],none,.pure (abW N)⟩
theorem aiZ(N:Nat):Holds 181 (aiY N):=gP N Tryz.f181 .leaf nl
def abX(N:Nat):(List dR)×(dR->Option Bool)->Option Int:=λ(b,c)=>aM (λ(_:Unit×Unit)=>some (-1)) λd=>aE (λe((a,_):Int×Unit)=>bif a<b.length then(aA b a).bind λf=>(c f).bind λg=>bif g then some a else e (Wk.wrap (a+1),())else d ((),())) N (0,())
abbrev ai0(N:Nat):ca U:=⟨[(.list (.struct 12)),(.fn (.struct 12) .bool)],[.v .I],none,.pure (abX N)⟩
theorem ai1(N:Nat):Holds 205 (ai0 N):=gP N Tryz.f205 (.q (.J (.W [0,1,7] [(8,.val .I)]) .leaf)) nl
def Vd(N:Nat):(List dR)×(dR->Option Bool)->Option Bool:=λ(a,b)=>(abX N (a,b)).bind λc=>some (decide (0<=c))
abbrev ai2(N:Nat):ca U:=⟨[(.list (.struct 12)),(.fn (.struct 12) .bool)],[.v .bool],none,.pure (Vd N)⟩
theorem ai3(N:Nat):Holds 182 (ai2 N):=gP N Tryz.f182 .leaf (cn (ai1 N) nl)
def Yp(N:Nat):dR×dR->Option Bool:=λ(a,b)=>some (a.name==b.name)
abbrev ai4(N:Nat):ca U:=⟨[(.struct 12),(.cell (.struct 12))],[.v .bool],none,.pure (Yp N)⟩
theorem ai5(N:Nat):Holds 183 (ai4 N):=gP N Tryz.f183 .leaf nl
def abY(N:Nat):(List cg)×(cg->Option Bool)->Option Int:=λ(b,c)=>aM (λ(_:Unit×Unit)=>some (-1)) λd=>aE (λe((a,_):Int×Unit)=>bif a<b.length then(aA b a).bind λf=>(c f).bind λg=>bif g then some a else e (Wk.wrap (a+1),())else d ((),())) N (0,())
abbrev ai6(N:Nat):ca U:=⟨[(.list (.struct 13)),(.fn (.struct 13) .bool)],[.v .I],none,.pure (abY N)⟩
theorem ai7(N:Nat):Holds 206 (ai6 N):=gP N Tryz.f206 (.q (.J (.W [0,1,7] [(8,.val .I)]) .leaf)) nl
def Ve(N:Nat):(List cg)×(cg->Option Bool)->Option Bool:=λ(a,b)=>(abY N (a,b)).bind λc=>some (decide (0<=c))
abbrev ai8(N:Nat):ca U:=⟨[(.list (.struct 13)),(.fn (.struct 13) .bool)],[.v .bool],none,.pure (Ve N)⟩
theorem ai9(N:Nat):Holds 184 (ai8 N):=gP N Tryz.f184 .leaf (cn (ai7 N) nl)
def Yq(N:Nat):cg×cg->Option Bool:=λ(a,b)=>some (a.role==b.role)
abbrev aja(N:Nat):ca U:=⟨[(.struct 13),(.cell (.struct 13))],[.v .bool],none,.pure (Yq N)⟩
theorem ajb(N:Nat):Holds 185 (aja N):=gP N Tryz.f185 .leaf nl
def Yr(N:Nat):fj×fj->Option Bool:=λ(a,b)=>some (a.role==b.role)
abbrev ajc(N:Nat):ca U:=⟨[(.struct 14),(.cell (.struct 14))],[.v .bool],none,.pure (Yr N)⟩
theorem ajd(N:Nat):Holds 186 (ajc N):=gP N Tryz.f186 .leaf nl
def Ys(N:Nat):(List cN)×cN->Option (Int×Int):=λ(v,a)=>(pJ N a.name).bind λy=>bif !y then some (0,2)else(Yo N (v,λz=>abW N (z,a))).bind λb0=>bif b0 then some (0,40)else bif !(a.cQ==[])then(pJ N a.cQ).bind λc0=>bif !c0 then some (0,2)else bif a.cQ==a.name then some (0,43)else aM (λ((d0,_):Int×Unit)=>aM (λ((g0,_):Int×Unit)=>aM (λ((j0,_):Int×Unit)=>some (j0,0)) λk0=>aE (λm0(((m,d),_):(Int×Int)×Unit)=>bif d<a.refs.length then(aA a.refs d).bind λt=>bif d==32 then some (Wk.wrap (m+1),4)else(pJ N t.role).bind λn0=>bif !n0 then some (Wk.wrap (m+1),2)else(pJ N t.ab).bind λp0=>bif !p0 then some (Wk.wrap (m+1),2)else(db (decide (0<=d)&&decide (d.toNat<=a.refs.length))).bind λ_=>(RM N (a.refs.take d.toNat,λq0=>Yr N (q0,t))).bind λr0=>bif r0 then some (Wk.wrap (m+1),40)else m0 ((Wk.wrap (m+1),Wk.wrap (d+1)),())else k0 (m,())) N ((g0,0),())) λs0=>aE (λt0(((b,e),_):(Int×Int)×Unit)=>bif e<a.kids.length then(aA a.kids e).bind λo=>bif e==32 then some (Wk.wrap (b+1),4)else(pJ N o.role).bind λv0=>bif !v0 then some (Wk.wrap (b+1),2)else(pJ N o.ab).bind λw0=>bif !w0 then some (Wk.wrap (b+1),2)else(db (decide (0<=e)&&decide (e.toNat<=a.kids.length))).bind λ_=>(Ve N (a.kids.take e.toNat,λx0=>Yq N (x0,o))).bind λy0=>bif y0 then some (Wk.wrap (b+1),40)else bif !((Wk.wrap ((BitVec.ofInt IntKind.i64.bits o.min&&&~~~BitVec.ofInt IntKind.i64.bits 1).toNat))==0)then some (Wk.wrap (b+1),44)else bif !((Wk.wrap ((BitVec.ofInt IntKind.i64.bits o.max&&&~~~BitVec.ofInt IntKind.i64.bits 1).toNat))==0)then some (Wk.wrap (b+1),44)else t0 ((Wk.wrap (b+1),Wk.wrap (e+1)),())else s0 (b,())) N ((d0,0),())) λz0=>aE (λb1(((f,g),_):(Int×Int)×Unit)=>bif g<a.aW.length then(aA a.aW g).bind λr=>bif g==32 then some (Wk.wrap (f+1),4)else(pJ N r.name).bind λc1=>bif !c1 then some (Wk.wrap (f+1),2)else(db (decide (0<=g)&&decide (g.toNat<=a.aW.length))).bind λ_=>(Vd N (a.aW.take g.toNat,λd1=>Yp N (d1,r))).bind λg1=>bif g1 then some (Wk.wrap (f+1),40)else bif r.type<1 then some (Wk.wrap (f+1),41)else bif 4<r.type then some (Wk.wrap (f+1),41)else b1 ((Wk.wrap (f+1),Wk.wrap (g+1)),())else z0 (f,())) N ((0,0),())else bif a.cQ==a.name then some (0,43)else aM (λ((j1,_):Int×Unit)=>aM (λ((k1,_):Int×Unit)=>aM (λ((m1,_):Int×Unit)=>some (m1,0)) λn1=>aE (λp1(((n,i),_):(Int×Int)×Unit)=>bif i<a.refs.length then(aA a.refs i).bind λu=>bif i==32 then some (Wk.wrap (n+1),4)else(pJ N u.role).bind λq1=>bif !q1 then some (Wk.wrap (n+1),2)else(pJ N u.ab).bind λr1=>bif !r1 then some (Wk.wrap (n+1),2)else(db (decide (0<=i)&&decide (i.toNat<=a.refs.length))).bind λ_=>(RM N (a.refs.take i.toNat,λs1=>Yr N (s1,u))).bind λt1=>bif t1 then some (Wk.wrap (n+1),40)else p1 ((Wk.wrap (n+1),Wk.wrap (i+1)),())else n1 (n,())) N ((k1,0),())) λv1=>aE (λw1(((c,j),_):(Int×Int)×Unit)=>bif j<a.kids.length then(aA a.kids j).bind λp=>bif j==32 then some (Wk.wrap (c+1),4)else(pJ N p.role).bind λx1=>bif !x1 then some (Wk.wrap (c+1),2)else(pJ N p.ab).bind λy1=>bif !y1 then some (Wk.wrap (c+1),2)else(db (decide (0<=j)&&decide (j.toNat<=a.kids.length))).bind λ_=>(Ve N (a.kids.take j.toNat,λz1=>Yq N (z1,p))).bind λb2=>bif b2 then some (Wk.wrap (c+1),40)else bif !((Wk.wrap ((BitVec.ofInt IntKind.i64.bits p.min&&&~~~BitVec.ofInt IntKind.i64.bits 1).toNat))==0)then some (Wk.wrap (c+1),44)else bif !((Wk.wrap ((BitVec.ofInt IntKind.i64.bits p.max&&&~~~BitVec.ofInt IntKind.i64.bits 1).toNat))==0)then some (Wk.wrap (c+1),44)else w1 ((Wk.wrap (c+1),Wk.wrap (j+1)),())else v1 (c,())) N ((j1,0),())) λc2=>aE (λd2(((k,l),_):(Int×Int)×Unit)=>bif l<a.aW.length then(aA a.aW l).bind λs=>bif l==32 then some (Wk.wrap (k+1),4)else(pJ N s.name).bind λg2=>bif !g2 then some (Wk.wrap (k+1),2)else(db (decide (0<=l)&&decide (l.toNat<=a.aW.length))).bind λ_=>(Vd N (a.aW.take l.toNat,λj2=>Yp N (j2,s))).bind λk2=>bif k2 then some (Wk.wrap (k+1),40)else bif s.type<1 then some (Wk.wrap (k+1),41)else bif 4<s.type then some (Wk.wrap (k+1),41)else d2 ((Wk.wrap (k+1),Wk.wrap (l+1)),())else c2 (k,())) N ((0,0),())
abbrev aje(N:Nat):ca U:=⟨[(.list (.struct 15)),(.struct 15)],[.v .I,.v .I],none,.pure (Ys N)⟩
theorem ajf(N:Nat):Holds 131 (aje N):=gP N Tryz.f131 (.q (.q (.q (.seq (some ⟨false,[3],[(6,.val .I)],[],[]⟩) (.W [3,39,40] [(6,.val .I),(41,.val .I)]) (.seq (some ⟨false,[3],[(6,.val .I)],[],[]⟩) (.W [3,78,79] [(6,.val .I),(80,.val .I)]) (.seq (some ⟨false,[],[(6,.val .I)],[],[]⟩) (.W [3,125,126] [(6,.val .I),(127,.val .I)]) .leaf)))))) (cn (NX N) (cn (afn N) (cn (aiX N) (cn (aiZ N) (cn (ai3 N) (cn (ai5 N) (cn (ai9 N) (cn (ajb N) (cn (ajd N) nl)))))))))
def RN(N:Nat):Int×cN×bT->Option (Int×Int):=λ(a,d,b)=>(db (decide (0<=a)&&decide (a.toNat<=b.aQ.length))).bind λ_=>(Ys N (b.aQ.take a.toNat,d)).bind λc=>some (c.1,c.2)
abbrev afo(N:Nat):ca U:=⟨[.I,(.struct 15),(.cell (.struct 23))],[.v .I,.v .I],none,.pure (RN N)⟩
theorem ajg(N:Nat):Holds 130 (afo N):=gP N Tryz.f130 .leaf (cn (ajf N) nl)
def abZ(N:Nat):Int×Int×(List rm)×((Int×rm)->Option (Int×Int))->Option (Except l8 Unit):=λ(c,e,d,f)=>aE (λg((a,_):Int×Unit)=>bif a<d.length then(aA d a).bind λi=>(sD N (decide (a<e),ia.mk c a 0 4)).bind λj=>B1 j (λk=>some (Except.error k)) λn=>(f (a,i)).bind λb=>(sD N (b.2==0,ia.mk c a b.1 b.2)).bind λl=>B1 l (λm=>some (Except.error m)) λo=>g (Wk.wrap (a+1),())else some (Except.ok ())) N (0,())
abbrev afp(N:Nat):ca U:=⟨[.I,.I,(.list (.struct 19)),(.fn (.pair .I (.struct 19)) (.pair .I .I))],[],(some (212,(.struct 33))),.pure (abZ N)⟩
theorem ajh(N:Nat):Holds 132 (afp N):=gP N Tryz.f132 (.W [0,1,3,12,13] [(14,.val .I)]) (cn (NW N) nl)
def ab0(N:Nat):(List rm)×(rm->Option Bool)->Option Int:=λ(b,c)=>aM (λ(_:Unit×Unit)=>some (-1)) λd=>aE (λe((a,_):Int×Unit)=>bif a<b.length then(aA b a).bind λf=>(c f).bind λg=>bif g then some a else e (Wk.wrap (a+1),())else d ((),())) N (0,())
abbrev aji(N:Nat):ca U:=⟨[(.list (.struct 19)),(.fn (.struct 19) .bool)],[.v .I],none,.pure (ab0 N)⟩
theorem ajj(N:Nat):Holds 187 (aji N):=gP N Tryz.f187 (.q (.J (.W [0,1,7] [(8,.val .I)]) .leaf)) nl
def Vf(N:Nat):(List rm)×(rm->Option Bool)->Option Bool:=λ(a,b)=>(ab0 N (a,b)).bind λc=>some (decide (0<=c))
abbrev ajk(N:Nat):ca U:=⟨[(.list (.struct 19)),(.fn (.struct 19) .bool)],[.v .bool],none,.pure (Vf N)⟩
theorem afq(N:Nat):Holds 134 (ajk N):=gP N Tryz.f134 .leaf (cn (ajj N) nl)
def Yt(N:Nat):rm×rm->Option Bool:=λ(a,b)=>bif a.ab==b.ab then bif a.name==b.name then some (a.scope==b.scope)else some false else some false
abbrev ajl(N:Nat):ca U:=⟨[(.struct 19),(.cell (.struct 19))],[.v .bool],none,.pure (Yt N)⟩
theorem ajm(N:Nat):Holds 135 (ajl N):=gP N Tryz.f135 .leaf nl
def Yu(N:Nat):Int×rm×bT->Option (Int×Int):=λ(b,a,c)=>(pJ N a.ab).bind λe=>bif !e then some (0,2)else(pJ N a.name).bind λf=>bif !f then some (0,2)else(db (decide (0<=b)&&decide (b.toNat<=c.rules.length))).bind λ_=>(Vf N (c.rules.take b.toNat,λg=>Yt N (g,a))).bind λi=>(RL N i).bind λd=>bif !(d==0)then some (0,d)else bif 4096<(a.expr.length:Int)then some (0,3)else some (0,0)
abbrev afr(N:Nat):ca U:=⟨[.I,(.struct 19),(.cell (.struct 23))],[.v .I,.v .I],none,.pure (Yu N)⟩
theorem ajn(N:Nat):Holds 133 (afr N):=gP N Tryz.f133 .leaf (cn (NX N) (cn (afk N) (cn (afq N) (cn (ajm N) nl))))
def ab1(N:Nat):Int×Int×(List cC)×((Int×cC)->Option (Int×Int))->Option (Except l8 Unit):=λ(c,e,d,f)=>aE (λg((a,_):Int×Unit)=>bif a<d.length then(aA d a).bind λi=>(sD N (decide (a<e),ia.mk c a 0 4)).bind λj=>B1 j (λk=>some (Except.error k)) λn=>(f (a,i)).bind λb=>(sD N (b.2==0,ia.mk c a b.1 b.2)).bind λl=>B1 l (λm=>some (Except.error m)) λo=>g (Wk.wrap (a+1),())else some (Except.ok ())) N (0,())
abbrev afs(N:Nat):ca U:=⟨[.I,.I,(.list (.struct 20)),(.fn (.pair .I (.struct 20)) (.pair .I .I))],[],(some (212,(.struct 33))),.pure (ab1 N)⟩
theorem ajo(N:Nat):Holds 136 (afs N):=gP N Tryz.f136 (.W [0,1,3,12,13] [(14,.val .I)]) (cn (NW N) nl)
def Vg(N:Nat):List l7->Option Int:=λc=>bif 64<(c.length:Int)then some 4 else aM (λ(_:Unit×Unit)=>(Yk N c).bind λf=>bif !f then some 2 else some 0) λg=>aE (λd((b,_):Int×Unit)=>bif b<c.length then(aA c b).bind λa=>(pJ N a.name).bind λi=>aM (λ((j,_):Bool×Unit)=>bif a.kind<1 then some 2 else bif 5<a.kind then some 2 else bif !j then some 2 else bif a.num<0 then some 2 else bif 0<a.num then bif !(a.kind==2)then some 2 else bif 0<(a.args.length:Int)then bif !(a.kind==4)then some 2 else d (Wk.wrap (b+1),())else d (Wk.wrap (b+1),())else bif 0<(a.args.length:Int)then bif !(a.kind==4)then some 2 else d (Wk.wrap (b+1),())else d (Wk.wrap (b+1),())) λe=>bif a.kind==1 then e ((a.name==[]),())else e (i,())else g ((),())) N (0,())
abbrev ajp(N:Nat):ca U:=⟨[(.list (.struct 1))],[.v .I],none,.pure (Vg N)⟩
theorem ajq(N:Nat):Holds 138 (ajp N):=gP N Tryz.f138 (.q (.q (.seq (some ⟨false,[0],[],[],[]⟩) (.q (.block (.w [0,9,10] [(11,.val .I)] (.q (.q (.seq none (.block (.q (.q (.seq (some ⟨false,[0,4,9,10,11],[(5,.val .bool)],[4],[]⟩) .leaf .leaf)))) .leaf)))))) .leaf))) (cn (NX N) (cn (aiI N) nl))
def Yv(N:Nat):Int×cC->Option (Int×Int):=λ(e,a)=>(pJ N a.ab).bind λc=>bif !c then some (0,2)else(Vg N a.left).bind λb=>bif !(b==0)then some (1,b)else(Vg N a.right).bind λd=>some (2,d)
abbrev aft(N:Nat):ca U:=⟨[.I,(.struct 20)],[.v .I,.v .I],none,.pure (Yv N)⟩
theorem ajr(N:Nat):Holds 137 (aft N):=gP N Tryz.f137 .leaf (cn (NX N) (cn (ajq N) nl))
def ab2(N:Nat):Int×Int×(List dw)×((Int×dw)->Option (Int×Int))->Option (Except l8 Unit):=λ(c,e,d,f)=>aE (λg((a,_):Int×Unit)=>bif a<d.length then(aA d a).bind λi=>(sD N (decide (a<e),ia.mk c a 0 4)).bind λj=>B1 j (λk=>some (Except.error k)) λn=>(f (a,i)).bind λb=>(sD N (b.2==0,ia.mk c a b.1 b.2)).bind λl=>B1 l (λm=>some (Except.error m)) λo=>g (Wk.wrap (a+1),())else some (Except.ok ())) N (0,())
abbrev afu(N:Nat):ca U:=⟨[.I,.I,(.list (.struct 21)),(.fn (.pair .I (.struct 21)) (.pair .I .I))],[],(some (212,(.struct 33))),.pure (ab2 N)⟩
theorem ajs(N:Nat):Holds 139 (afu N):=gP N Tryz.f139 (.W [0,1,3,12,13] [(14,.val .I)]) (cn (NW N) nl)
def ab3(N:Nat):(List dw)×(dw->Option Bool)->Option Int:=λ(b,c)=>aM (λ(_:Unit×Unit)=>some (-1)) λd=>aE (λe((a,_):Int×Unit)=>bif a<b.length then(aA b a).bind λf=>(c f).bind λg=>bif g then some a else e (Wk.wrap (a+1),())else d ((),())) N (0,())
abbrev ajt(N:Nat):ca U:=⟨[(.list (.struct 21)),(.fn (.struct 21) .bool)],[.v .I],none,.pure (ab3 N)⟩
theorem aju(N:Nat):Holds 189 (ajt N):=gP N Tryz.f189 (.q (.J (.W [0,1,7] [(8,.val .I)]) .leaf)) nl
def Yw(N:Nat):(List dw)×(dw->Option Bool)->Option Bool:=λ(a,b)=>(ab3 N (a,b)).bind λc=>some (decide (0<=c))
abbrev ajv(N:Nat):ca U:=⟨[(.list (.struct 21)),(.fn (.struct 21) .bool)],[.v .bool],none,.pure (Yw N)⟩
theorem ajw(N:Nat):Holds 141 (ajv N):=gP N Tryz.f141 .leaf (cn (aju N) nl)
def ab4(N:Nat):dw×dw->Option Bool:=λ(a,b)=>some (a.ab==b.ab)
abbrev ajx(N:Nat):ca U:=⟨[(.struct 21),(.cell (.struct 21))],[.v .bool],none,.pure (ab4 N)⟩
theorem ajy(N:Nat):Holds 142 (ajx N):=gP N Tryz.f142 .leaf nl
def Vh(N:Nat):bE×Bool×Int×(Int->Option (Int×Int))×Int->Option (Int×Int):=λ(d,e,c,f,g)=>(pJ N d).bind λi=>bif !i then some (0,2)else bif e then some (0,40)else bif 64<c then some (65,4)else aM (λ(_:Unit×Unit)=>some (0,0)) λj=>aE (λk((a,_):Int×Unit)=>bif a<c then(f a).bind λb=>bif b.1<1 then some (Wk.wrap (a+1),2)else bif g<b.1 then some (Wk.wrap (a+1),2)else bif 4096<b.2 then some (Wk.wrap (a+1),3)else k (Wk.wrap (a+1),())else j ((),())) N (0,())
abbrev ajz(N:Nat):ca U:=⟨[.str,.bool,.I,(.fn .I (.pair .I .I)),.I],[.v .I,.v .I],none,.pure (Vh N)⟩
theorem afv(N:Nat):Holds 143 (ajz N):=gP N Tryz.f143 (.q (.q (.q (.q (.J (.W [3,4,21] [(22,.val .I)]) .leaf))))) (cn (NX N) nl)
def Yx(N:Nat):Int×dw->Option (Int×Int):=λ(a,b)=>(aA b.cells a).bind λc=>(aA b.cells a).bind λd=>(aA b.cells a).bind λe=>some (c.kind,Wk.wrap ((d.text.length:Int)+(e.mark.length:Int)))
abbrev ajA(N:Nat):ca U:=⟨[.I,(.cell (.struct 21))],[.v .I,.v .I],none,.pure (Yx N)⟩
theorem ajB(N:Nat):Holds 144 (ajA N):=gP N Tryz.f144 .leaf nl
def Yy(N:Nat):Int×dw×bT->Option (Int×Int):=λ(c,a,b)=>(db (decide (0<=c)&&decide (c.toNat<=b.c8.length))).bind λ_=>(Yw N (b.c8.take c.toNat,λb=>ab4 N (b,a))).bind λe=>(Vh N (a.ab,e,(a.cells.length:Int),λf=>Yx N (f,a),6)).bind λd=>some (d.1,d.2)
abbrev afw(N:Nat):ca U:=⟨[.I,(.struct 21),(.cell (.struct 23))],[.v .I,.v .I],none,.pure (Yy N)⟩
theorem ajC(N:Nat):Holds 140 (afw N):=gP N Tryz.f140 .leaf (cn (ajw N) (cn (ajy N) (cn (afv N) (cn (ajB N) nl))))
def ab5(N:Nat):Int×Int×(List cp)×((Int×cp)->Option (Int×Int))->Option (Except l8 Unit):=λ(c,e,d,f)=>aE (λg((a,_):Int×Unit)=>bif a<d.length then(aA d a).bind λi=>(sD N (decide (a<e),ia.mk c a 0 4)).bind λj=>B1 j (λk=>some (Except.error k)) λn=>(f (a,i)).bind λb=>(sD N (b.2==0,ia.mk c a b.1 b.2)).bind λl=>B1 l (λm=>some (Except.error m)) λo=>g (Wk.wrap (a+1),())else some (Except.ok ())) N (0,())
abbrev afx(N:Nat):ca U:=⟨[.I,.I,(.list (.struct 22)),(.fn (.pair .I (.struct 22)) (.pair .I .I))],[],(some (212,(.struct 33))),.pure (ab5 N)⟩
theorem ajD(N:Nat):Holds 145 (afx N):=gP N Tryz.f145 (.W [0,1,3,12,13] [(14,.val .I)]) (cn (NW N) nl)
def ab6(N:Nat):(List cp)×(cp->Option Bool)->Option Int:=λ(b,c)=>aM (λ(_:Unit×Unit)=>some (-1)) λd=>aE (λe((a,_):Int×Unit)=>bif a<b.length then(aA b a).bind λf=>(c f).bind λg=>bif g then some a else e (Wk.wrap (a+1),())else d ((),())) N (0,())
abbrev ajE(N:Nat):ca U:=⟨[(.list (.struct 22)),(.fn (.struct 22) .bool)],[.v .I],none,.pure (ab6 N)⟩
theorem ajF(N:Nat):Holds 190 (ajE N):=gP N Tryz.f190 (.q (.J (.W [0,1,7] [(8,.val .I)]) .leaf)) nl
def Yz(N:Nat):(List cp)×(cp->Option Bool)->Option Bool:=λ(a,b)=>(ab6 N (a,b)).bind λc=>some (decide (0<=c))
abbrev ajG(N:Nat):ca U:=⟨[(.list (.struct 22)),(.fn (.struct 22) .bool)],[.v .bool],none,.pure (Yz N)⟩
theorem ajH(N:Nat):Holds 147 (ajG N):=gP N Tryz.f147 .leaf (cn (ajF N) nl)
def ab7(N:Nat):cp×cp->Option Bool:=λ(a,b)=>some (a.ab==b.ab)
abbrev ajI(N:Nat):ca U:=⟨[(.struct 22),(.cell (.struct 22))],[.v .bool],none,.pure (ab7 N)⟩
theorem ajJ(N:Nat):Holds 148 (ajI N):=gP N Tryz.f148 .leaf nl
def YA(N:Nat):Int×cp->Option (Int×Int):=λ(a,b)=>(aA b.pieces a).bind λc=>(aA b.pieces a).bind λd=>(aA b.pieces a).bind λe=>some (c.kind,Wk.wrap ((d.text.length:Int)+(e.mark.length:Int)))
abbrev ajK(N:Nat):ca U:=⟨[.I,(.cell (.struct 22))],[.v .I,.v .I],none,.pure (YA N)⟩
theorem ajL(N:Nat):Holds 149 (ajK N):=gP N Tryz.f149 .leaf nl
def YB(N:Nat):Int×cp×bT->Option (Int×Int):=λ(c,a,b)=>(db (decide (0<=c)&&decide (c.toNat<=b.cd.length))).bind λ_=>(Yz N (b.cd.take c.toNat,λb=>ab7 N (b,a))).bind λe=>(Vh N (a.ab,e,(a.pieces.length:Int),λf=>YA N (f,a),5)).bind λd=>some (d.1,d.2)
abbrev afy(N:Nat):ca U:=⟨[.I,(.struct 22),(.cell (.struct 23))],[.v .I,.v .I],none,.pure (YB N)⟩
theorem ajM(N:Nat):Holds 146 (afy N):=gP N Tryz.f146 .leaf (cn (afv N) (cn (ajH N) (cn (ajJ N) (cn (ajL N) nl))))
def C63(N:Nat):bT->Option (Except l8 Unit):=λa0=>(pJ N a0.name).bind λy1=>(sD N (y1,ia.mk 0 0 0 2)).bind λy2=>B1 y2 (λe4=>some (Except.error e4)) λr3=>(sD N (decide (1<=a0.version),ia.mk 0 1 0 2)).bind λy5=>B1 y5 (λe7=>some (Except.error e7)) λr6=>(abS N (1,8,a0.rZ,λ(a9,XF)=>Yn N (a9,XF,a0))).bind λy8=>B1 y8 (λSx=>some (Except.error Sx)) λr11=>(abT N (2,128,a0.aQ,λ(a14,a15)=>RN N (a14,a15,a0))).bind λy13=>B1 y13 (λe17=>some (Except.error e17)) λr16=>(abZ N (3,256,a0.rules,λ(a19,a20)=>Yu N (a19,a20,a0))).bind λy18=>B1 y18 (λe22=>some (Except.error e22)) λr21=>(ab1 N (4,256,a0.equations,λ(a24,a25)=>Yv N (a24,a25))).bind λy23=>B1 y23 (λe27=>some (Except.error e27)) λr26=>(ab2 N (5,256,a0.c8,λ(a29,a30)=>Yy N (a29,a30,a0))).bind λy28=>B1 y28 (λe32=>some (Except.error e32)) λr31=>(ab5 N (6,256,a0.cd,λ(a34,a35)=>YB N (a34,a35,a0))).bind λy33=>B1 y33 (λe37=>some (Except.error e37)) λr36=>some (Except.ok ())
def F63(N:Nat):bT->Option ia:=λa=>(C63 N a).bind λr=>B1 r (λe=>some e.f) λ_=>some (ia.mk 0 0 0 0)
def K63(N:Nat):ca U:=⟨[(.struct 23)],[.v (.struct 28)],none,.pure (F63 N)⟩
def Z7(N:Nat):List (Nat×List (ca U)):=[(124,[afh N]),(125,[afi N]),(126,[afj N]),(127,[afl N]),(129,[afm N]),(130,[afo N]),(132,[afp N]),(133,[afr N]),(136,[afs N]),(137,[aft N]),(139,[afu N]),(140,[afw N]),(145,[afx N]),(146,[afy N])]
theorem ab8(N:Nat)(E:Env)(hE:∀i,E.ro i=none):Cons PP E TT BB (Z7 N):=.cons (NW N E hE) (.cons (NX N E hE) (.cons (aiL N E hE) (.cons (aiP N E hE) (.cons (aiQ N E hE) (.cons (ajg N E hE) (.cons (ajh N E hE) (.cons (ajn N E hE) (.cons (ajo N E hE) (.cons (ajr N E hE) (.cons (ajs N E hE) (.cons (ajC N E hE) (.cons (ajD N E hE) (.cons (ajM N E hE) (.nil))))))))))))))
abbrev YC:Ty:=(.struct 23)
abbrev I8:Ty:=(.struct 33)
abbrev ab9:Ty:=(.struct 28)
end Go.Proofs.Mo
