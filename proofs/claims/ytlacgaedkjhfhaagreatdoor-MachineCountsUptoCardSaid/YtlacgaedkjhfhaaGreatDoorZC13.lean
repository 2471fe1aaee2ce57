import Derived.Test.YtlacgaedkjhfhaaGreatDoorProg
import Derived.Test.YtlacgaedkjhfhaaGreatDoorZC12
set_option linter.all false
set_option maxRecDepth 20000
open Option renaming some->O,none->Y
open Bool renaming true->W,false->F
open Go.Proofs.Tryz
noncomputable section
namespace Go.Proofs.Mo
open Go Go.Ev Go.X
abbrev ahv:Ty:=.mp 1000
abbrev ahY:Ty:=.ptr 1
abbrev ahx:Ty:=.ptr 10
abbrev aie:Ty:=.ptr 2
abbrev aia:Ty:=.struct 1
abbrev ahQ:Ty:=.struct 12
abbrev ahR:Ty:=.struct 13
abbrev ahJ:Ty:=.struct 14
abbrev ahw:Ty:=.struct 15
abbrev aii:Ty:=.struct 16
abbrev aij:Ty:=.struct 17
abbrev aik:Ty:=.struct 19
abbrev ail:Ty:=.struct 20
abbrev ahK:Ty:=.struct 21
abbrev ahB:Ty:=.struct 22
abbrev ahE:Ty:=.struct 23
abbrev ahS:Ty:=.struct 24
abbrev ahL:Ty:=.struct 25
abbrev ahM:Ty:=.struct 26
abbrev ahy:Ty:=.struct 27
abbrev ahu:Ty:=.struct 29
abbrev ahT:Ty:=.struct 30
abbrev ahz:Ty:=.struct 31
abbrev aim:Ty:=.struct 32
abbrev ahN:Ty:=.struct 40
abbrev ahZ:Ty:=.struct 44
abbrev aih:Ty:=.cell .I
abbrev ahA:Ty:=.cell ahY
abbrev ah8:Ty:=.cell ahE
abbrev ahO:Ty:=.cell ahy
abbrev ah6:Ty:=.aq .I
abbrev aib:Ty:=.aq .str
abbrev ahF:Ty:=.aq aia
abbrev ahU:Ty:=.aq ahQ
abbrev ahV:Ty:=.aq ahR
abbrev ahW:Ty:=.aq ahJ
abbrev ahC:Ty:=.aq ahw
abbrev ah1:Ty:=.aq aii
abbrev ah2:Ty:=.aq aij
abbrev ah3:Ty:=.aq aik
abbrev ah4:Ty:=.aq ail
abbrev ah9:Ty:=.aq ahK
abbrev ahG:Ty:=.aq ahE
abbrev ahX:Ty:=.aq ahS
abbrev ahH:Ty:=.aq ahL
abbrev ahI:Ty:=.aq ahM
abbrev aht:Ty:=.aq ahy
abbrev ah5:Ty:=.aq ahu
abbrev ahP:Ty:=.aq aim
abbrev ahs:Ty:=.ref ahN
abbrev ahr:Ty:=.int .i64
abbrev ah7:Ty:=.int .u64
abbrev ain:Ty:=.int .u8
abbrev ahD:Ty:=.cell aht
abbrev ah0:Ty:=.aq ahr
abbrev aic:Ty:=.gn .I .I
structure kI where
 kind:Int
 name:cI
 num:Int
 args:List Int
 deriving Inhabited
structure hW where
 deriving Inhabited
structure hX where
 deriving Inhabited
structure vY where
 u0:hX
 v:Int
 deriving Inhabited
structure xD where
 vZ:Int
 ZU:Int
 deriving Inhabited
structure pY where
 u0:hW
 mu:xD
 deriving Inhabited
structure v7 where
 u0:hW
 done:vY
 m:pY
 deriving Inhabited
structure mL where
 deriving Inhabited
structure Gx where
 u0:hX
 u1:mL
 v:Int
 deriving Inhabited
structure zz where
 lh:Option Nat
 qw:Option (Nat×Nat)
 ready:v7
 bits:Option (Nat×Nat)
 mw:Gx
 deriving Inhabited
structure dB where
 e0:Int
 e1:Int
 deriving Inhabited
structure eR where
 name:cI
 type:Int
 deriving Inhabited
structure gp where
 role:cI
 aw:cI
 min:Int
 max:Int
 deriving Inhabited
structure fH where
 role:cI
 aw:cI
 acG:Bool
 deriving Inhabited
structure dt where
 name:cI
 de:cI
 lO:Bool
 bl:List eR
 bj:List gp
 ab:List fH
 deriving Inhabited
structure Cell where
 kind:Int
 text:cI
 mark:cI
 deriving Inhabited
structure sU where
 kind:Int
 text:cI
 mark:cI
 deriving Inhabited
structure gD where
 aw:dt
 sA:cI
 up:Option Nat
 number:Int
 gO:Option Nat
 dx:Option (Nat×Nat)
 equations:Option (Nat×Nat)
 cells:List Cell
 eb:List sU
 qx:Bool
 mf:Bool
 deriving Inhabited
structure Dm where
 name:cI
 value:cI
 deriving Inhabited
structure Rf where
 role:cI
 target:Int
 deriving Inhabited
structure Nd where
 iD:Int
 aw:cI
 cQ:Int
 role:cI
 bl:List Dm
 bj:List Int
 ab:List Rf
 deriving Inhabited
structure hD where
 next:Int
 ay:List Nd
 deriving Inhabited
structure qy where
 aw:cI
 name:cI
 scope:Bool
 Lb:cI
 deriving Inhabited
structure cV where
 aw:cI
 left:List kI
 right:List kI
 deriving Inhabited
structure er where
 aw:cI
 cells:List Cell
 deriving Inhabited
structure cC where
 aw:cI
 eb:List sU
 deriving Inhabited
structure cW where
 name:cI
 version:Int
 pZ:List cI
 br:List dt
 dx:List qy
 equations:List cV
 dv:List er
 ch:List cC
 deriving Inhabited
structure Nj where
 ls:List cW
 m:hD
 self:Int
 bT:Int
 deriving Inhabited
structure c8 where
 op:Int
 arg:Int
 int:Int
 text:cI
 deriving Inhabited
structure qI where
 aq:List c8
 deriving Inhabited
structure eT where
 kind:Int
 int:Int
 text:cI
 bool:Bool
 node:Int
 aq:List Int
 deriving Inhabited
structure bk where
 base:Int
 next:Int
 deriving Inhabited
structure db where
 B9:Bool
 cJ:Int
 loops:List bk
 deriving Inhabited
structure Zh where
 l:List c8
 eB:Option (Nat×Nat)
 deriving Inhabited
structure bO where
 t:Option Nat
 m:hD
 c:List c8
 lh:Option Nat
 self:Int
 bT:Int
 eC:Int
 eB:Int
 stack:Option (Nat×Nat)
 loops:Option (Nat×Nat)
 fA:Option (Nat×Nat)
 deriving Inhabited
structure Mop where
 doo:Option Nat
 deriving Inhabited
abbrev Lc:Type:=HL (λ_=>xW) (List.replicate 41 ahv)
structure fE where
 aq:Option (Nat×Nat)
 sum:Int
 deriving Inhabited
structure bJ where
 cx:fE
 op:Int
 fY:List Int
 dH:Int
 deriving Inhabited
structure gW where
 Wd:Int
 eB:Int
 part:Int
 gd:Int
 deriving Inhabited
structure Ld where
 e0:Int
 e1:Int
 e2:Int
 deriving Inhabited
structure Le where
 e0:Option Nat
 e1:Option Nat
 e2:Option Nat
 e3:Option Nat
 deriving Inhabited
structure Ca where
 Lb:cI
 deriving Inhabited
structure kJ where
 f:gW
 deriving Inhabited
structure Hp where
 hQ:List (Option (List dB))
 dU:List zz
 et:List gD
 jk:List (List (cI×Option Nat))
 uB:List (List (cI×Ca))
 uC:List (Option (List cI))
 Cb:List (Option (List qy))
 CV:List (Option (List cV))
 all:List (List (cI×dt))
 CW:List Int
 fj:List bO
 IT:List (Option (List eT))
 jC:List (Option (List bJ))
 sg:List (Option (List Int))
 gls:List (Option (List Int))
 jt:List (List (Int×Nd))
 oN:List Zh
 v8:List (Option (List db))
 Cc:List (Option (Nat×Nat))
 zf:List (Option (List Int))
 deriving Inhabited
@[reducible] noncomputable def CC:Nat->Type
  |0=>Hp|1=>kI
  |2=>hW|3=>hX
  |4=>vY|5=>xD
  |6=>pY|7=>v7
  |8=>mL|9=>Gx
  |10=>zz|11=>dB
  |12=>eR|13=>gp
  |14=>fH|15=>dt
  |16=>Cell|17=>sU
  |18=>gD|19=>Dm
  |20=>Rf|21=>Nd
  |22=>hD|23=>qy
  |24=>cV|25=>er
  |26=>cC|27=>cW
  |28=>Nj|29=>c8
  |30=>qI|31=>eT
  |32=>bk|33=>db
  |34=>Zh|35=>bO
  |36=>Mop|37=>Lc
  |38=>fE|39=>bJ
  |40=>gW|41=>Ld
  |42=>Le|43=>Ca
  |44=>kJ|_+45=>xW
@[reducible] noncomputable def UF:Nat->Z Ty
  |0=>[]|1=>[ahr,.str,ahr,ah0]
  |2=>[]|3=>[]
  |4=>[(.struct 3),(.int .u32)]|5=>[(.int .i32),(.int .u32)]
  |6=>[(.struct 2),(.struct 5)]|7=>[(.struct 2),(.struct 4),(.struct 6)]
  |8=>[]|9=>[(.struct 3),(.struct 8),ahr]
  |10=>[(.mp 3),(.hs 5),(.struct 7),(.hs 0),(.struct 9)]|11=>[ah7,ah7]
  |12=>[.str,ahr]|13=>[.str,.str,ahr,ahr]
  |14=>[.str,.str,.bool]|15=>[.str,.str,.bool,ahU,ahV,ahW]
  |16=>[ahr,.str,.str]|17=>[ahr,.str,.str]
  |18=>[ahw,.str,aie,ahr,(.mp 4),(.hs 6),(.hs 7),ah1,ah2,.bool,.bool]|19=>[.str,.str]
  |20=>[.str,ahr]|21=>[ahr,.str,ahr,.str,ah3,ah0,ah4]
  |22=>[ahr,ah9]|23=>[.str,.str,.bool,.str]
  |24=>[.str,ahF,ahF]|25=>[.str,ah1]
  |26=>[.str,ah2]|27=>[.str,ahr,aib,ahC,ahG,ahX,ahH,ahI]
  |28=>[aht,ahB,ahr,ahr]|29=>[ahr,ahr,ahr,.str]
  |30=>[ah5]|31=>[ahr,ahr,.str,.bool,ahr,ah0]
  |32=>[ahr,ahr]|33=>[.bool,ahr,ahP]
  |34=>[ah5,(.hs 17)]|35=>[ahY,ahB,ah5,(.mp 15),ahr,ahr,ahr,ahr,(.hs 11),(.hs 12),(.hs 13)]
  |36=>[ahv]|37=>List.replicate 41 ahv
  |38=>[(.hs 14),ahr]|39=>[(.struct 38),ahr,ah0,ahr]
  |40=>[ahr,ahr,ahr,ahr]|41=>[ahr,ahr,ahr]
  |42=>[ahv,ahv,ahv,ahv]|43=>[.str]
  |44=>[ahN]|_+45=>[]
noncomputable def UU:(n:Nat)->CC n->HL CC (UF n)
 |0,_=>()|1,x=>(x.kind,x.name,x.num,x.args)
 |2,x=>()|3,x=>()
 |4,x=>(x.u0,x.v)|5,x=>(x.vZ,x.ZU)
 |6,x=>(x.u0,x.mu)|7,x=>(x.u0,x.done,x.m)
 |8,x=>()|9,x=>(x.u0,x.u1,x.v)
 |10,x=>(x.lh,x.qw,x.ready,x.bits,x.mw)|11,x=>(x.e0,x.e1)
 |12,x=>(x.name,x.type)|13,x=>(x.role,x.aw,x.min,x.max)
 |14,x=>(x.role,x.aw,x.acG)|15,x=>(x.name,x.de,x.lO,x.bl,x.bj,x.ab)
 |16,x=>(x.kind,x.text,x.mark)|17,x=>(x.kind,x.text,x.mark)
 |18,x=>(x.aw,x.sA,x.up,x.number,x.gO,x.dx,x.equations,x.cells,x.eb,x.qx,x.mf)|19,x=>(x.name,x.value)
 |20,x=>(x.role,x.target)|21,x=>(x.iD,x.aw,x.cQ,x.role,x.bl,x.bj,x.ab)
 |22,x=>(x.next,x.ay)|23,x=>(x.aw,x.name,x.scope,x.Lb)
 |24,x=>(x.aw,x.left,x.right)|25,x=>(x.aw,x.cells)
 |26,x=>(x.aw,x.eb)|27,x=>(x.name,x.version,x.pZ,x.br,x.dx,x.equations,x.dv,x.ch)
 |28,x=>(x.ls,x.m,x.self,x.bT)|29,x=>(x.op,x.arg,x.int,x.text)
 |30,x=>x.aq|31,x=>(x.kind,x.int,x.text,x.bool,x.node,x.aq)
 |32,x=>(x.base,x.next)|33,x=>(x.B9,x.cJ,x.loops)
 |34,x=>(x.l,x.eB)|35,x=>(x.t,x.m,x.c,x.lh,x.self,x.bT,x.eC,x.eB,x.stack,x.loops,x.fA)
 |36,x=>x.doo|37,x=>x
 |38,x=>(x.aq,x.sum)|39,x=>(x.cx,x.op,x.fY,x.dH)
 |40,x=>(x.Wd,x.eB,x.part,x.gd)|41,x=>(x.e0,x.e1,x.e2)
 |42,x=>(x.e0,x.e1,x.e2,x.e3)|43,x=>x.Lb
 |44,x=>x.f|_+45,_=>()
noncomputable def UM:(n:Nat)->HL CC (UF n)->CC n
 |0,_=>(default:Hp)|1,y=>(kI.mk y.1 y.2.1 y.2.2.1 y.2.2.2:kI)
 |2,y=>(hW.mk:hW)|3,y=>(hX.mk:hX)
 |4,y=>(vY.mk y.1 y.2:vY)|5,y=>(xD.mk y.1 y.2:xD)
 |6,y=>(pY.mk y.1 y.2:pY)|7,y=>(v7.mk y.1 y.2.1 y.2.2:v7)
 |8,y=>(mL.mk:mL)|9,y=>(Gx.mk y.1 y.2.1 y.2.2:Gx)
 |10,y=>(zz.mk y.1 y.2.1 y.2.2.1 y.2.2.2.1 y.2.2.2.2:zz)|11,y=>(dB.mk y.1 y.2:dB)
 |12,y=>(eR.mk y.1 y.2:eR)|13,y=>(gp.mk y.1 y.2.1 y.2.2.1 y.2.2.2:gp)
 |14,y=>(fH.mk y.1 y.2.1 y.2.2:fH)|15,y=>(dt.mk y.1 y.2.1 y.2.2.1 y.2.2.2.1 y.2.2.2.2.1 y.2.2.2.2.2:dt)
 |16,y=>(Cell.mk y.1 y.2.1 y.2.2:Cell)|17,y=>(sU.mk y.1 y.2.1 y.2.2:sU)
 |18,y=>(gD.mk y.1 y.2.1 y.2.2.1 y.2.2.2.1 y.2.2.2.2.1 y.2.2.2.2.2.1 y.2.2.2.2.2.2.1 y.2.2.2.2.2.2.2.1 y.2.2.2.2.2.2.2.2.1 y.2.2.2.2.2.2.2.2.2.1 y.2.2.2.2.2.2.2.2.2.2:gD)|19,y=>(Dm.mk y.1 y.2:Dm)
 |20,y=>(Rf.mk y.1 y.2:Rf)|21,y=>(Nd.mk y.1 y.2.1 y.2.2.1 y.2.2.2.1 y.2.2.2.2.1 y.2.2.2.2.2.1 y.2.2.2.2.2.2:Nd)
 |22,y=>(hD.mk y.1 y.2:hD)|23,y=>(qy.mk y.1 y.2.1 y.2.2.1 y.2.2.2:qy)
 |24,y=>(cV.mk y.1 y.2.1 y.2.2:cV)|25,y=>(er.mk y.1 y.2:er)
 |26,y=>(cC.mk y.1 y.2:cC)|27,y=>(cW.mk y.1 y.2.1 y.2.2.1 y.2.2.2.1 y.2.2.2.2.1 y.2.2.2.2.2.1 y.2.2.2.2.2.2.1 y.2.2.2.2.2.2.2:cW)
 |28,y=>(Nj.mk y.1 y.2.1 y.2.2.1 y.2.2.2:Nj)|29,y=>(c8.mk y.1 y.2.1 y.2.2.1 y.2.2.2:c8)
 |30,y=>(qI.mk y:qI)|31,y=>(eT.mk y.1 y.2.1 y.2.2.1 y.2.2.2.1 y.2.2.2.2.1 y.2.2.2.2.2:eT)
 |32,y=>(bk.mk y.1 y.2:bk)|33,y=>(db.mk y.1 y.2.1 y.2.2:db)
 |34,y=>(Zh.mk y.1 y.2:Zh)|35,y=>(bO.mk y.1 y.2.1 y.2.2.1 y.2.2.2.1 y.2.2.2.2.1 y.2.2.2.2.2.1 y.2.2.2.2.2.2.1 y.2.2.2.2.2.2.2.1 y.2.2.2.2.2.2.2.2.1 y.2.2.2.2.2.2.2.2.2.1 y.2.2.2.2.2.2.2.2.2.2:bO)
 |36,y=>(Mop.mk y:Mop)|37,y=>y
 |38,y=>(fE.mk y.1 y.2:fE)|39,y=>(bJ.mk y.1 y.2.1 y.2.2.1 y.2.2.2:bJ)
 |40,y=>(gW.mk y.1 y.2.1 y.2.2.1 y.2.2.2:gW)|41,y=>(Ld.mk y.1 y.2.1 y.2.2:Ld)
 |42,y=>(Le.mk y.1 y.2.1 y.2.2.1 y.2.2.2:Le)|43,y=>(Ca.mk y:Ca)
 |44,y=>(kJ.mk y:kJ)|_+45,_=>()
noncomputable def UA:Nat->AK
 |0=>.bi (.struct 11) 358|1=>.hC (.struct 10)
 |2=>.hC (.struct 18)|3=>.map .str aie
 |4=>.map .str (.struct 43)|5=>.bi .str 9
 |6=>.bi ahE 173|7=>.bi ahS 182
 |8=>.map .str ahw|9=>.hC ahr
 |10=>.hC (.struct 35)|11=>.bi ahz 39
 |12=>.bi (.struct 39) 245|13=>.bi ahr 3
 |14=>.bi ahr 3|15=>.map ahr ahK
 |16=>.hC (.struct 34)|17=>.bi (.struct 33) 238
 |18=>.hC (.hs 19)|19=>.bi ahr 3
 |_+20=>.hC .bool
noncomputable def UG:(k:Nat)->CC 0->Z (wY CC (UA k))
 |0,h=>h.hQ|1,h=>h.dU
 |2,h=>h.et|3,h=>h.jk
 |4,h=>h.uB|5,h=>h.uC
 |6,h=>h.Cb|7,h=>h.CV
 |8,h=>h.all|9,h=>h.CW
 |10,h=>h.fj|11,h=>h.IT
 |12,h=>h.jC|13,h=>h.sg
 |14,h=>h.gls|15,h=>h.jt
 |16,h=>h.oN|17,h=>h.v8
 |18,h=>h.Cc|19,h=>h.zf
 |_+20,_=>[]
noncomputable def US:(k:Nat)->CC 0->Z (wY CC (UA k))->CC 0
 |0,h,l=>{h with hQ:=l}|1,h,l=>{h with dU:=l}
 |2,h,l=>{h with et:=l}|3,h,l=>{h with jk:=l}
 |4,h,l=>{h with uB:=l}|5,h,l=>{h with uC:=l}
 |6,h,l=>{h with Cb:=l}|7,h,l=>{h with CV:=l}
 |8,h,l=>{h with all:=l}|9,h,l=>{h with CW:=l}
 |10,h,l=>{h with fj:=l}|11,h,l=>{h with IT:=l}
 |12,h,l=>{h with jC:=l}|13,h,l=>{h with sg:=l}
 |14,h,l=>{h with gls:=l}|15,h,l=>{h with jt:=l}
 |16,h,l=>{h with oN:=l}|17,h,l=>{h with v8:=l}
 |18,h,l=>{h with Cc:=l}|19,h,l=>{h with zf:=l}
 |_+20,h,_=>h
noncomputable def U:cg:={C:=CC,dA:=UF,un:=UU,make:=UM,ak:=UA,get:=UG,set:=US,nk:=20,em:=λk=>ig k [0]}
noncomputable def BB:vU:={ty:=[(2,ahr),(3,ahr),(4,.bool),(5,ain),(9,.str),(21,(.int .i32)),(22,aht),(23,ah9),(25,ahB),(27,(.struct 28)),(28,ah5),(30,ahT),(37,ah0),(39,ahz),(44,ahr),(55,ah7),(58,ahu),(59,aib),(60,ahC),(61,ahG),(62,ahX),(63,ahH),(64,ahI),(66,ahy),(68,ahN),(72,ah3),(73,ah4),(75,ahK),(81,(.aq ahz)),(91,(.aq (.struct 39))),(93,(.struct 35)),(96,aik),(102,(.int .u32)),(104,(.struct 4)),(106,(.struct 5)),(108,(.struct 6)),(110,(.struct 7)),(111,(.aq (.struct 11))),(114,(.struct 9)),(116,(.struct 10)),(119,ahs),(137,(.struct 36)),(138,(.struct 37)),(141,ail),(146,ahU),(147,ahV),(148,ahW),(150,ahw),(154,ah1),(155,ah2),(157,(.struct 18)),(160,(.aq aie)),(163,ahQ),(165,ahR),(167,ahJ),(168,(.aq aib)),(169,(.struct 41)),(173,ahE),(180,ahF),(182,ahS),(188,ahL),(192,aii),(196,ahM),(199,aij),(201,(.struct 42)),(204,ah7),(232,(.aq (.struct 33))),(234,(.struct 34)),(236,ahP),(238,(.struct 33)),(243,(.struct 38)),(245,(.struct 39)),(250,ahZ),(281,(.struct 43)),(317,aim),(341,aia),(355,(.aq ain)),(358,(.struct 11)),(32,ahY),(85,ahx),(90,(.mp 15)),(98,(.mp 3)),(152,aie),(153,(.mp 4)),(159,(.mp 8)),(231,(.ptr 16))],elem:=[(22,66),(23,75),(28,58),(37,3),(59,9),(60,150),(61,173),(62,182),(63,188),(64,196),(72,96),(73,141),(81,39),(91,245),(111,358),(146,163),(147,165),(148,167),(154,192),(155,199),(160,152),(168,59),(180,341),(232,238),(236,317),(355,5)],bytes:=[(2,8),(3,8),(4,1),(5,1),(9,16),(21,4),(22,24),(23,24),(25,32),(27,72),(28,24),(30,24),(37,24),(39,72),(44,8),(55,8),(58,40),(59,24),(60,24),(61,24),(62,24),(63,24),(64,24),(66,168),(68,32),(72,24),(73,24),(75,120),(81,24),(91,24),(93,176),(96,32),(102,4),(104,4),(106,8),(108,8),(110,12),(111,24),(114,8),(116,80),(119,8),(137,8),(138,328),(141,24),(146,24),(147,24),(148,24),(150,112),(154,24),(155,24),(157,256),(160,24),(163,24),(165,48),(167,40),(168,24),(169,24),(173,56),(180,24),(182,64),(188,40),(192,40),(196,40),(199,40),(201,32),(204,8),(232,24),(234,48),(236,24),(238,40),(243,32),(245,72),(250,32),(281,16),(317,16),(341,56),(355,24),(358,16),(32,8),(85,8),(90,8),(98,8),(152,8),(153,8),(159,8),(231,8)],JL:=[118],JM:=[117,135,326,377],j9:=[(138,137),(169,3),(201,178),(358,55)],pK:=[138],VV:=[(37,48),(37,5),(37,30)]}
noncomputable abbrev XB (N:Nat) (con:Z (Nat×Z (b7 U))):gj U:=BB.qN N con
noncomputable abbrev PP:qK:=Go.Proofs.Tryz.prog
noncomputable def TT:dm CC:=vR U (XK U) 46
def FI:∀n x,U.un n (U.make n x)=x
 |0,_=>rfl|1,_=>rfl
 |2,_=>rfl|3,_=>rfl
 |4,_=>rfl|5,_=>rfl
 |6,_=>rfl|7,_=>rfl
 |8,_=>rfl|9,_=>rfl
 |10,_=>rfl|11,_=>rfl
 |12,_=>rfl|13,_=>rfl
 |14,_=>rfl|15,_=>rfl
 |16,_=>rfl|17,_=>rfl
 |18,_=>rfl|19,_=>rfl
 |20,_=>rfl|21,_=>rfl
 |22,_=>rfl|23,_=>rfl
 |24,_=>rfl|25,_=>rfl
 |26,_=>rfl|27,_=>rfl
 |28,_=>rfl|29,_=>rfl
 |30,_=>rfl|31,_=>rfl
 |32,_=>rfl|33,_=>rfl
 |34,_=>rfl|35,_=>rfl
 |36,_=>rfl|37,_=>rfl
 |38,_=>rfl|39,_=>rfl
 |40,_=>rfl|41,_=>rfl
 |42,_=>rfl|43,_=>rfl
 |44,_=>rfl|_+45,_=>rfl
def Uk:∀n,(UF n).all (below n)=W:=
 λn=>if h:n<45 then pW (f:=λn=>(UF n).all (below n)) (n:=45) au n h else by
  obtain⟨m,rfl⟩:=zW (Nat.le_of_not_lt h)
  (rw[jF])<;>rfl
def acH:∀n,(UF n).all eV=W:=
 λn=>if h:n<45 then pW (f:=λn=>(UF n).all eV) (n:=45) au n h else by
  obtain⟨m,rfl⟩:=zW (Nat.le_of_not_lt h)
  (rw[jF])<;>rfl
def XR:∀n,gk U D (.struct n)=W:=
 λn=>if h:n<45 then pW (f:=λn=>gk U D (.struct n)) (n:=45) au n h else by
  obtain⟨m,rfl⟩:=zW (Nat.le_of_not_lt h)
  (rw[jF])<;>rfl
def ZW:∀n,45<=n->UF n=[]:=λn h=>by
 obtain⟨m,rfl⟩:=zW h
 (rw[jF])<;>rfl
def ZX:∀k,20<=k->UA k=.hC .bool:=λk h=>by
 obtain⟨m,rfl⟩:=zW h
 (rw[jF])<;>rfl
def zr:∀(k:Nat)(h:CC 0)(l:Z (wY CC (UA k))),k<20->UG k (US k h l)=l
 |0,_,_,_=>rfl|1,_,_,_=>rfl
 |2,_,_,_=>rfl|3,_,_,_=>rfl
 |4,_,_,_=>rfl|5,_,_,_=>rfl
 |6,_,_,_=>rfl|7,_,_,_=>rfl
 |8,_,_,_=>rfl|9,_,_,_=>rfl
 |10,_,_,_=>rfl|11,_,_,_=>rfl
 |12,_,_,_=>rfl|13,_,_,_=>rfl
 |14,_,_,_=>rfl|15,_,_,_=>rfl
 |16,_,_,_=>rfl|17,_,_,_=>rfl
 |18,_,_,_=>rfl|19,_,_,_=>rfl
 |_+20,_,_,h=>M
def FJ:∀(k:Nat)(h h':CC 0),20<=k->UG k h=UG k h'
 |0,_,_,h=>M|1,_,_,h=>M
 |2,_,_,h=>M|3,_,_,h=>M
 |4,_,_,h=>M|5,_,_,h=>M
 |6,_,_,h=>M|7,_,_,h=>M
 |8,_,_,h=>M|9,_,_,h=>M
 |10,_,_,h=>M|11,_,_,h=>M
 |12,_,_,h=>M|13,_,_,h=>M
 |14,_,_,h=>M|15,_,_,h=>M
 |16,_,_,h=>M|17,_,_,h=>M
 |18,_,_,h=>M|19,_,_,h=>M
 |_+20,_,_,_=>rfl
def r6:∀(k k':Nat)(h:CC 0)(l:Z (wY CC (UA k))),k'≠k->UG k' (US k h l)=UG k' h
 |0,0,_,_,h=>(h rfl).elim|0,1,_,_,_=>rfl
 |0,2,_,_,_=>rfl|0,3,_,_,_=>rfl
 |0,4,_,_,_=>rfl|0,5,_,_,_=>rfl
 |0,6,_,_,_=>rfl|0,7,_,_,_=>rfl
 |0,8,_,_,_=>rfl|0,9,_,_,_=>rfl
 |0,10,_,_,_=>rfl|0,11,_,_,_=>rfl
 |0,12,_,_,_=>rfl|0,13,_,_,_=>rfl
 |0,14,_,_,_=>rfl|0,15,_,_,_=>rfl
 |0,16,_,_,_=>rfl|0,17,_,_,_=>rfl
 |0,18,_,_,_=>rfl|0,19,_,_,_=>rfl
 |0,_+20,_,_,_=>rfl|1,0,_,_,_=>rfl
 |1,1,_,_,h=>(h rfl).elim|1,2,_,_,_=>rfl
 |1,3,_,_,_=>rfl|1,4,_,_,_=>rfl
 |1,5,_,_,_=>rfl|1,6,_,_,_=>rfl
 |1,7,_,_,_=>rfl|1,8,_,_,_=>rfl
 |1,9,_,_,_=>rfl|1,10,_,_,_=>rfl
 |1,11,_,_,_=>rfl|1,12,_,_,_=>rfl
 |1,13,_,_,_=>rfl|1,14,_,_,_=>rfl
 |1,15,_,_,_=>rfl|1,16,_,_,_=>rfl
 |1,17,_,_,_=>rfl|1,18,_,_,_=>rfl
 |1,19,_,_,_=>rfl|1,_+20,_,_,_=>rfl
 |2,0,_,_,_=>rfl|2,1,_,_,_=>rfl
 |2,2,_,_,h=>(h rfl).elim|2,3,_,_,_=>rfl
 |2,4,_,_,_=>rfl|2,5,_,_,_=>rfl
 |2,6,_,_,_=>rfl|2,7,_,_,_=>rfl
 |2,8,_,_,_=>rfl|2,9,_,_,_=>rfl
 |2,10,_,_,_=>rfl|2,11,_,_,_=>rfl
 |2,12,_,_,_=>rfl|2,13,_,_,_=>rfl
 |2,14,_,_,_=>rfl|2,15,_,_,_=>rfl
 |2,16,_,_,_=>rfl|2,17,_,_,_=>rfl
 |2,18,_,_,_=>rfl|2,19,_,_,_=>rfl
 |2,_+20,_,_,_=>rfl|3,0,_,_,_=>rfl
 |3,1,_,_,_=>rfl|3,2,_,_,_=>rfl
 |3,3,_,_,h=>(h rfl).elim|3,4,_,_,_=>rfl
 |3,5,_,_,_=>rfl|3,6,_,_,_=>rfl
 |3,7,_,_,_=>rfl|3,8,_,_,_=>rfl
 |3,9,_,_,_=>rfl|3,10,_,_,_=>rfl
 |3,11,_,_,_=>rfl|3,12,_,_,_=>rfl
 |3,13,_,_,_=>rfl|3,14,_,_,_=>rfl
 |3,15,_,_,_=>rfl|3,16,_,_,_=>rfl
 |3,17,_,_,_=>rfl|3,18,_,_,_=>rfl
 |3,19,_,_,_=>rfl|3,_+20,_,_,_=>rfl
 |4,0,_,_,_=>rfl|4,1,_,_,_=>rfl
 |4,2,_,_,_=>rfl|4,3,_,_,_=>rfl
 |4,4,_,_,h=>(h rfl).elim|4,5,_,_,_=>rfl
 |4,6,_,_,_=>rfl|4,7,_,_,_=>rfl
 |4,8,_,_,_=>rfl|4,9,_,_,_=>rfl
 |4,10,_,_,_=>rfl|4,11,_,_,_=>rfl
 |4,12,_,_,_=>rfl|4,13,_,_,_=>rfl
 |4,14,_,_,_=>rfl|4,15,_,_,_=>rfl
 |4,16,_,_,_=>rfl|4,17,_,_,_=>rfl
 |4,18,_,_,_=>rfl|4,19,_,_,_=>rfl
 |4,_+20,_,_,_=>rfl|5,0,_,_,_=>rfl
 |5,1,_,_,_=>rfl|5,2,_,_,_=>rfl
 |5,3,_,_,_=>rfl|5,4,_,_,_=>rfl
 |5,5,_,_,h=>(h rfl).elim|5,6,_,_,_=>rfl
 |5,7,_,_,_=>rfl|5,8,_,_,_=>rfl
 |5,9,_,_,_=>rfl|5,10,_,_,_=>rfl
 |5,11,_,_,_=>rfl|5,12,_,_,_=>rfl
 |5,13,_,_,_=>rfl|5,14,_,_,_=>rfl
 |5,15,_,_,_=>rfl|5,16,_,_,_=>rfl
 |5,17,_,_,_=>rfl|5,18,_,_,_=>rfl
 |5,19,_,_,_=>rfl|5,_+20,_,_,_=>rfl
 |6,0,_,_,_=>rfl|6,1,_,_,_=>rfl
 |6,2,_,_,_=>rfl|6,3,_,_,_=>rfl
 |6,4,_,_,_=>rfl|6,5,_,_,_=>rfl
 |6,6,_,_,h=>(h rfl).elim|6,7,_,_,_=>rfl
 |6,8,_,_,_=>rfl|6,9,_,_,_=>rfl
 |6,10,_,_,_=>rfl|6,11,_,_,_=>rfl
 |6,12,_,_,_=>rfl|6,13,_,_,_=>rfl
 |6,14,_,_,_=>rfl|6,15,_,_,_=>rfl
 |6,16,_,_,_=>rfl|6,17,_,_,_=>rfl
 |6,18,_,_,_=>rfl|6,19,_,_,_=>rfl
 |6,_+20,_,_,_=>rfl|7,0,_,_,_=>rfl
 |7,1,_,_,_=>rfl|7,2,_,_,_=>rfl
 |7,3,_,_,_=>rfl|7,4,_,_,_=>rfl
 |7,5,_,_,_=>rfl|7,6,_,_,_=>rfl
 |7,7,_,_,h=>(h rfl).elim|7,8,_,_,_=>rfl
 |7,9,_,_,_=>rfl|7,10,_,_,_=>rfl
 |7,11,_,_,_=>rfl|7,12,_,_,_=>rfl
 |7,13,_,_,_=>rfl|7,14,_,_,_=>rfl
 |7,15,_,_,_=>rfl|7,16,_,_,_=>rfl
 |7,17,_,_,_=>rfl|7,18,_,_,_=>rfl
 |7,19,_,_,_=>rfl|7,_+20,_,_,_=>rfl
 |8,0,_,_,_=>rfl|8,1,_,_,_=>rfl
 |8,2,_,_,_=>rfl|8,3,_,_,_=>rfl
 |8,4,_,_,_=>rfl|8,5,_,_,_=>rfl
 |8,6,_,_,_=>rfl|8,7,_,_,_=>rfl
 |8,8,_,_,h=>(h rfl).elim|8,9,_,_,_=>rfl
 |8,10,_,_,_=>rfl|8,11,_,_,_=>rfl
 |8,12,_,_,_=>rfl|8,13,_,_,_=>rfl
 |8,14,_,_,_=>rfl|8,15,_,_,_=>rfl
 |8,16,_,_,_=>rfl|8,17,_,_,_=>rfl
 |8,18,_,_,_=>rfl|8,19,_,_,_=>rfl
 |8,_+20,_,_,_=>rfl|9,0,_,_,_=>rfl
 |9,1,_,_,_=>rfl|9,2,_,_,_=>rfl
 |9,3,_,_,_=>rfl|9,4,_,_,_=>rfl
 |9,5,_,_,_=>rfl|9,6,_,_,_=>rfl
 |9,7,_,_,_=>rfl|9,8,_,_,_=>rfl
 |9,9,_,_,h=>(h rfl).elim|9,10,_,_,_=>rfl
 |9,11,_,_,_=>rfl|9,12,_,_,_=>rfl
 |9,13,_,_,_=>rfl|9,14,_,_,_=>rfl
 |9,15,_,_,_=>rfl|9,16,_,_,_=>rfl
 |9,17,_,_,_=>rfl|9,18,_,_,_=>rfl
 |9,19,_,_,_=>rfl|9,_+20,_,_,_=>rfl
 |10,0,_,_,_=>rfl|10,1,_,_,_=>rfl
 |10,2,_,_,_=>rfl|10,3,_,_,_=>rfl
 |10,4,_,_,_=>rfl|10,5,_,_,_=>rfl
 |10,6,_,_,_=>rfl|10,7,_,_,_=>rfl
 |10,8,_,_,_=>rfl|10,9,_,_,_=>rfl
 |10,10,_,_,h=>(h rfl).elim|10,11,_,_,_=>rfl
 |10,12,_,_,_=>rfl|10,13,_,_,_=>rfl
 |10,14,_,_,_=>rfl|10,15,_,_,_=>rfl
 |10,16,_,_,_=>rfl|10,17,_,_,_=>rfl
 |10,18,_,_,_=>rfl|10,19,_,_,_=>rfl
 |10,_+20,_,_,_=>rfl|11,0,_,_,_=>rfl
 |11,1,_,_,_=>rfl|11,2,_,_,_=>rfl
 |11,3,_,_,_=>rfl|11,4,_,_,_=>rfl
 |11,5,_,_,_=>rfl|11,6,_,_,_=>rfl
 |11,7,_,_,_=>rfl|11,8,_,_,_=>rfl
 |11,9,_,_,_=>rfl|11,10,_,_,_=>rfl
 |11,11,_,_,h=>(h rfl).elim|11,12,_,_,_=>rfl
 |11,13,_,_,_=>rfl|11,14,_,_,_=>rfl
 |11,15,_,_,_=>rfl|11,16,_,_,_=>rfl
 |11,17,_,_,_=>rfl|11,18,_,_,_=>rfl
 |11,19,_,_,_=>rfl|11,_+20,_,_,_=>rfl
 |12,0,_,_,_=>rfl|12,1,_,_,_=>rfl
 |12,2,_,_,_=>rfl|12,3,_,_,_=>rfl
 |12,4,_,_,_=>rfl|12,5,_,_,_=>rfl
 |12,6,_,_,_=>rfl|12,7,_,_,_=>rfl
 |12,8,_,_,_=>rfl|12,9,_,_,_=>rfl
 |12,10,_,_,_=>rfl|12,11,_,_,_=>rfl
 |12,12,_,_,h=>(h rfl).elim|12,13,_,_,_=>rfl
 |12,14,_,_,_=>rfl|12,15,_,_,_=>rfl
 |12,16,_,_,_=>rfl|12,17,_,_,_=>rfl
 |12,18,_,_,_=>rfl|12,19,_,_,_=>rfl
 |12,_+20,_,_,_=>rfl|13,0,_,_,_=>rfl
 |13,1,_,_,_=>rfl|13,2,_,_,_=>rfl
 |13,3,_,_,_=>rfl|13,4,_,_,_=>rfl
 |13,5,_,_,_=>rfl|13,6,_,_,_=>rfl
 |13,7,_,_,_=>rfl|13,8,_,_,_=>rfl
 |13,9,_,_,_=>rfl|13,10,_,_,_=>rfl
 |13,11,_,_,_=>rfl|13,12,_,_,_=>rfl
 |13,13,_,_,h=>(h rfl).elim|13,14,_,_,_=>rfl
 |13,15,_,_,_=>rfl|13,16,_,_,_=>rfl
 |13,17,_,_,_=>rfl|13,18,_,_,_=>rfl
 |13,19,_,_,_=>rfl|13,_+20,_,_,_=>rfl
 |14,0,_,_,_=>rfl|14,1,_,_,_=>rfl
 |14,2,_,_,_=>rfl|14,3,_,_,_=>rfl
 |14,4,_,_,_=>rfl|14,5,_,_,_=>rfl
 |14,6,_,_,_=>rfl|14,7,_,_,_=>rfl
 |14,8,_,_,_=>rfl|14,9,_,_,_=>rfl
 |14,10,_,_,_=>rfl|14,11,_,_,_=>rfl
 |14,12,_,_,_=>rfl|14,13,_,_,_=>rfl
 |14,14,_,_,h=>(h rfl).elim|14,15,_,_,_=>rfl
 |14,16,_,_,_=>rfl|14,17,_,_,_=>rfl
 |14,18,_,_,_=>rfl|14,19,_,_,_=>rfl
 |14,_+20,_,_,_=>rfl|15,0,_,_,_=>rfl
 |15,1,_,_,_=>rfl|15,2,_,_,_=>rfl
 |15,3,_,_,_=>rfl|15,4,_,_,_=>rfl
 |15,5,_,_,_=>rfl|15,6,_,_,_=>rfl
 |15,7,_,_,_=>rfl|15,8,_,_,_=>rfl
 |15,9,_,_,_=>rfl|15,10,_,_,_=>rfl
 |15,11,_,_,_=>rfl|15,12,_,_,_=>rfl
 |15,13,_,_,_=>rfl|15,14,_,_,_=>rfl
 |15,15,_,_,h=>(h rfl).elim|15,16,_,_,_=>rfl
 |15,17,_,_,_=>rfl|15,18,_,_,_=>rfl
 |15,19,_,_,_=>rfl|15,_+20,_,_,_=>rfl
 |16,0,_,_,_=>rfl|16,1,_,_,_=>rfl
 |16,2,_,_,_=>rfl|16,3,_,_,_=>rfl
 |16,4,_,_,_=>rfl|16,5,_,_,_=>rfl
 |16,6,_,_,_=>rfl|16,7,_,_,_=>rfl
 |16,8,_,_,_=>rfl|16,9,_,_,_=>rfl
 |16,10,_,_,_=>rfl|16,11,_,_,_=>rfl
 |16,12,_,_,_=>rfl|16,13,_,_,_=>rfl
 |16,14,_,_,_=>rfl|16,15,_,_,_=>rfl
 |16,16,_,_,h=>(h rfl).elim|16,17,_,_,_=>rfl
 |16,18,_,_,_=>rfl|16,19,_,_,_=>rfl
 |16,_+20,_,_,_=>rfl|17,0,_,_,_=>rfl
 |17,1,_,_,_=>rfl|17,2,_,_,_=>rfl
 |17,3,_,_,_=>rfl|17,4,_,_,_=>rfl
 |17,5,_,_,_=>rfl|17,6,_,_,_=>rfl
 |17,7,_,_,_=>rfl|17,8,_,_,_=>rfl
 |17,9,_,_,_=>rfl|17,10,_,_,_=>rfl
 |17,11,_,_,_=>rfl|17,12,_,_,_=>rfl
 |17,13,_,_,_=>rfl|17,14,_,_,_=>rfl
 |17,15,_,_,_=>rfl|17,16,_,_,_=>rfl
 |17,17,_,_,h=>(h rfl).elim|17,18,_,_,_=>rfl
 |17,19,_,_,_=>rfl|17,_+20,_,_,_=>rfl
 |18,0,_,_,_=>rfl|18,1,_,_,_=>rfl
 |18,2,_,_,_=>rfl|18,3,_,_,_=>rfl
 |18,4,_,_,_=>rfl|18,5,_,_,_=>rfl
 |18,6,_,_,_=>rfl|18,7,_,_,_=>rfl
 |18,8,_,_,_=>rfl|18,9,_,_,_=>rfl
 |18,10,_,_,_=>rfl|18,11,_,_,_=>rfl
 |18,12,_,_,_=>rfl|18,13,_,_,_=>rfl
 |18,14,_,_,_=>rfl|18,15,_,_,_=>rfl
 |18,16,_,_,_=>rfl|18,17,_,_,_=>rfl
 |18,18,_,_,h=>(h rfl).elim|18,19,_,_,_=>rfl
 |18,_+20,_,_,_=>rfl|19,0,_,_,_=>rfl
 |19,1,_,_,_=>rfl|19,2,_,_,_=>rfl
 |19,3,_,_,_=>rfl|19,4,_,_,_=>rfl
 |19,5,_,_,_=>rfl|19,6,_,_,_=>rfl
 |19,7,_,_,_=>rfl|19,8,_,_,_=>rfl
 |19,9,_,_,_=>rfl|19,10,_,_,_=>rfl
 |19,11,_,_,_=>rfl|19,12,_,_,_=>rfl
 |19,13,_,_,_=>rfl|19,14,_,_,_=>rfl
 |19,15,_,_,_=>rfl|19,16,_,_,_=>rfl
 |19,17,_,_,_=>rfl|19,18,_,_,_=>rfl
 |19,19,_,_,h=>(h rfl).elim|19,_+20,_,_,_=>rfl
 |_+20,_,_,_,_=>rfl
def LL:cw U TT:=OC (top:=45) FI Uk acH XR ZW zr cd FJ r6
def XS:xw PP U BB=W:=au
def SS:Gr PP U TT BB:=⟨LL,au,XS,ZX⟩
noncomputable def Holds (f:Nat) (c:b7 U):Prop:=∀E:cm,B8 E->jV PP E TT (BB.qN 0 []) f c
abbrev zA:Ty:=.struct 1
abbrev ZY:Nat:=10
abbrev Lf:Ty:=.struct 10
abbrev XT:Ty:=.struct 22
abbrev Rs:Nat:=37
abbrev ZZ:Nat:=0
abbrev qz:Nat:=1
abbrev Z5:Nat:=3
abbrev IU:Nat:=5
abbrev Rt:Nat:=9
abbrev Ru:Nat:=18
noncomputable def IV:Hp:=⟨[],[],[],[],[],[],[],[],[],[],[],[],[],[],[],[],[],[],[],[]⟩
def Gy:∀k,k<U.nk->U.get k IV=[]
 |0,_=>rfl|1,_=>rfl
 |2,_=>rfl|3,_=>rfl
 |4,_=>rfl|5,_=>rfl
 |6,_=>rfl|7,_=>rfl
 |8,_=>rfl|9,_=>rfl
 |10,_=>rfl|11,_=>rfl
 |12,_=>rfl|13,_=>rfl
 |14,_=>rfl|15,_=>rfl
 |16,_=>rfl|17,_=>rfl
 |18,_=>rfl|19,_=>rfl
 |_+20,h=>absurd h (Nat.not_lt.2 (Nat.le_add_left _ _))
abbrev ub(con:Z (Nat×Z (b7 U))):Prop:=∀E:cm,B8 E->tY PP E TT BB con
def nl:ub []:=λ_ _=>.nil
def cn{f:Nat}{c:b7 U}{con:Z (Nat×Z (b7 U))}(h:Holds f c)(b:ub con):ub ((f,[c])::con):=λE a=>.cons (h E a) (b E a)
section
variable{f:Nat}{ps:Z Ty}{rs:Z RK}{dO:V (Nat×Ty)}{con:Z (Nat×Z (b7 U))}
def gP(N:Nat)(fn:Pz)(hint:fC)(c:ub con)(esc:Z (Nat×Nat):=[]){a:HL U.C ps->V (h7 U dO (HL U.C (rs.map RK.ty)))}(d:PP.funcs[f]?=O fn:=by kernel_rfl)(e:om fn ps.length=W:=by kernel_rfl)(g:kG BB rs dO=W:=by kernel_rfl)
  (hF:∀x h,DT (BB.qN N con) ps rs dO esc fn.results.toList (fn.body.getD .skip) hint x h=a x:=by intros;kernel_rfl):Holds f ⟨ps,rs,dO,.pure a⟩:=
 λE b=>ZN SS b.ro (default:Hp) fn ⟨ps,rs,dO,.pure a⟩ N esc hint (c E b) a d e g hF
def gS(N:Nat)(fn:Pz)(hint:fC)(c:ub con)(esc:Z (Nat×Nat):=[]){a:HL U.C ps->U.C 0->V (h7 U dO (HL U.C (rs.map RK.ty))×U.C 0)}(d:PP.funcs[f]?=O fn:=by kernel_rfl)(e:om fn ps.length=W:=by kernel_rfl)(g:kG BB rs dO=W:=by kernel_rfl)
  (hF:∀x h,vr (BB.qN N con) ps rs dO esc fn.results.toList (fn.body.getD .skip) hint x h=a x h:=by intros;kernel_rfl):Holds f ⟨ps,rs,dO,.st a⟩:=
 λE b=>Wc SS b.ro fn ⟨ps,rs,dO,.st a⟩ N esc hint (c E b) a d e g hF
def gM(N:Nat)(fn:Pz)(hint:fC)(c:ub con)(esc:Z (Nat×Nat):=[]){a:HL U.C ps->U.C 0->V (h7 U dO (HL U.C (rs.map RK.ty))×U.C 0)}(d:PP.funcs[f]?=O fn:=by kernel_rfl)(e:om fn ps.length=W:=by kernel_rfl)(g:kG BB rs dO=W:=by kernel_rfl)
  (hF:∀x h,Gn (BB.qN N con) ps rs dO esc fn.results.toList (fn.body.getD .skip) hint x h=a x h:=by intros;kernel_rfl):Holds f ⟨ps,rs,dO,.st a⟩:=
 λE b=>ZO SS b.ro fn ⟨ps,rs,dO,.st a⟩ N esc hint (c E b) a d e g hF
def gF(N:Nat)(c:Z (Nat×(Nat×Z (V Nat))))(d:∀E,B8 E->∀f n fs,lk c f=O (n,fs)->nm PP E f [] (.ret [.v (.agg (fs.map pb))]))(fn:Pz)(hint:fC)(e:ub con)(esc:Z (Nat×Nat):=[]){a:HL U.C ps->U.C 0->V (h7 U dO (HL U.C (rs.map RK.ty))×U.C 0)}(g:PP.funcs[f]?=O fn:=by kernel_rfl)(i:om fn ps.length=W:=by kernel_rfl)(j:kG BB rs dO=W:=by kernel_rfl)
  (hF:∀x h,vr (BB.Rq N con c) ps rs dO esc fn.results.toList (fn.body.getD .skip) hint x h=a x h:=by intros;kernel_rfl):Holds f ⟨ps,rs,dO,.st a⟩:=
 λE b=>XP SS b.ro fn ⟨ps,rs,dO,.st a⟩ N esc hint (e E b) (d E b) a g i j hF
end
end Go.Proofs.Mo
namespace Go.Proofs.Mo
open Go Go.Ev Go.X
open Go.IntKind renaming i64->Wk
section
variable(N:Nat)
def Ul:(Z Nd)×Int×((Nd×Int)->V Int)->V (Int×tl):=λ(c,e,f)=>aS (λ((d,_):Int×xW)=>bif d<c.length then(aR c d).bind λXU=>(f (XU,e)).bind λh=>O (d,h==0)else O (d,F)) λi=>aZ (λg(((a,b),_):(Int×Int)×xW)=>bif a<b then(cR (decide (0<=1))).bind λ_=>(aR c (Wk.wrap ((IntKind.u64.wrap (Wk.wrap (a+b))).fdiv (2^(min 1 IntKind.u64.bits))))).bind λZ6=>(f (Z6,e)).bind λj=>bif j<0 then g ((Wk.wrap ((Wk.wrap ((IntKind.u64.wrap (Wk.wrap (a+b))).fdiv (2^(min 1 IntKind.u64.bits))))+1),b),())else g ((a,Wk.wrap ((IntKind.u64.wrap (Wk.wrap (a+b))).fdiv (2^(min 1 IntKind.u64.bits)))),())else i (a,())) N ((0,(c.length:Int)),())
abbrev acI:b7 U:=⟨[ah9,.I,(.fn (.gn ahK .I) .I)],[.v .I,.v .bool],Y,.pure (Ul N)⟩
def acJ:Holds 209 (acI N):=gP N f209 (.q (.q (.q (.seq (O ⟨F,[0,1,2,8],[(9,.val .I)],[],[]⟩) (.block (.w [0,1,2,8] [(9,.val .I),(10,.val .I)] .aC)) .aC)))) nl
def Um(N:Nat):Nd×Int->V Int:=λ(a,b)=>O (Wk.wrap (a.iD-b))
abbrev acK:b7 U:=⟨[ahK,.I],[.v .I],Y,.pure (Um N)⟩
def acL:Holds 210 (acK N):=gP N f210 .aC nl
def Dn:hD×Int->V Int:=λ(b,c)=>(Ul N (b.ay,c,λ(d,e)=>Um N (d,e))).bind λa=>bif !a.2 then O (-1)else O a.1
abbrev acM:b7 U:=⟨[ahB,.I],[.v .I],Y,.pure (Dn N)⟩
def Un:Holds 116 (acM N):=gP N f116 .aC (cn (acJ N) (cn (acL N) nl))
def Uo:Int×hD×(V Nat)×(Int->Hp->V (xW×Hp))->Hp->V (xW×Hp):=λ(j,f,a2,k) h=>
 (Dn N (f,j)).bind λl=>
 (aR f.ay l).bind λz2=>
 aZ (λm((c,a):Int×Hp)=>
  bif c<z2.bj.length then
   (aR z2.bj c).bind λUp=>
   a2.bind λn=>
   (a.Cc[n]?).bind λg=>
   (ad a.zf g).bind λb=>
   (cR (cE 8 (b.length+[Up].length) 140737488355328)).bind λ_=>
   bw {a with zf:=ek a.zf g} λd=>
   a2.bind λi=>
   (cR (!(b++[Up]).isEmpty)).bind λ_=>
   bw {d with zf:=d.zf++[O (b++[Up])]} λe=>
   (e.Cc[i]?).bind λq=>
   bw {e with Cc:=e.Cc.set i (O (d.zf.length,(b++[Up]).length))} λo=>
   (k Up o).bind λp=>
   m (Wk.wrap (c+1),p.2)
  else O ((),a)) N (0,h)
abbrev acN:b7 U:=⟨[.I,(.cell ahB),(.ptr 18),(.jR .I .unit)],[],Y,.st (Uo N)⟩
def acO:Holds 268 (acN N):=gS N f268 (.q (.block (.loop ⟨W,[2,3,14,15],[(16,.val .I)],[],[]⟩ .aC))) (cn (Un N) nl)
end
end Go.Proofs.Mo
namespace Go.Proofs.Mo
open Go Go.Ev Go.X
def Cd(N:Nat)(m:hD)(p:V Nat):Nat->Int->Hp->V (xW×Hp)
 |0=>λ_ _=>Y|n+1=>λi h=>Uo N (i,m,p,Cd N m p n) h
def Rv(N:Nat):hD×Int->Hp->V (Z Int×Hp):=λ(a,b) h=>
 bw {h with Cc:=h.Cc++[Y]} λc=>
 (Cd N a (O h.Cc.length) N b c).bind λy=>
 (O h.Cc.length).bind λi=>
 (y.2.Cc[i]?).bind λe=>
 (ad y.2.zf e).bind λx=>
 bw {y.2 with zf:=ek y.2.zf e} λh=>
 O (x,h)
abbrev Lg:Ty:=XT
abbrev Uq:Ty:=.ptr Ru
noncomputable def Nk (N:Nat) (s:S U.C):V (Int->Hp->V (xW×Hp)):=match s.bQ 2,s.bQ 5 with
 |.dJ a l 0,.val t p=>match eh t Uq p,eh a Lg l with
  |some p,O l=>O (Cd N l p N)|_,_=>Y
 |_,_=>Y
noncomputable def zB:Go.Code:=f252.body.getD .skip
noncomputable abbrev Rw (N:Nat):gj U:=XB N []
def Z7(N:Nat)(x:HL U.C [Lg,.int .i64])(h:U.C 0):MY [Lg,.int .i64] [.v ah6] Y (Rw N) f252.results.toList (IM (Rw N) [(2,998),(5,Ru)] 2 zB 6 7 ahr .unit (Nk N) .aC) x h=Rv N x h:=au
def IW{E:cm}(b:B8 E)(N:Nat)(m:hD)(p:V Nat)(B:Nat):∀n,kr (U:=U) PP E TT (.jR ahr .unit) (Cd N m p n) (oH B 268 [enc TT (.cell Lg) m,enc TT Uq p] (n+1))
 |0=>⟨268,_,rfl,λx h y h' a=>by cases a⟩
 |n+1=>⟨268,_,rfl,λx h y h' a e c A Vloc d=>by obtain⟨_,rfl⟩:=c;exact(acO N E b).sy (x,m,p,Cd N m p n) h _ y h' A Vloc ⟨_,_,rfl,⟨rfl,rfl⟩,_,_,rfl,⟨rfl,rfl⟩,_,_,rfl,⟨rfl,rfl⟩,_,_,rfl,IW b N m p B n,rfl⟩ d a⟩
def Rx{E:cm}(m:B8 E){N n:Nat}(y:7<n){X:gj U}{f:S U.C}{q1:St}{φ:Int->Hp->V (xW×Hp)}(g:aX PP E TT X f q1)(h:Nk N f=O φ):
  ∃b Mloc,b.length=[2,5].length/\(∀(j t:Nat),[2,5][j]?=O t->t<n/\t≠6/\∃av,b[j]?=O av/\q1.r t=.val av)/\∀B,kr (U:=U) PP E TT (.jR ahr .unit) φ (oH B 268 b Mloc):=by
 unfold Nk at h;split at h
 .rename_i z l t p o q;split at h
  .rename_i A l' r s;obtain⟨e,rfl⟩:=bN r;subst e;obtain⟨e,rfl⟩:=bN s;subst e;simp only[ax]at h;subst h;have c:=g.cu 5;have d:=g.cu 2;rw[q]at c;rw[o]at d;generalize u:q1.r 5=v at c;generalize w:q1.r 2=C at d;cases c with
   |val _ _ _ av k hv=>
    cases d with
    |dJ _ _ _ D=>
     obtain⟨_,rfl⟩:=hv;have x:v=.val (enc TT Uq p):=by
      change V Nat at p;cases p with
      |none=>exact dF k|some i=>exact pd k
     refine⟨[enc TT (.cell Lg) l,enc TT Uq p],N+1,rfl,λj t a=>?_,λB=>IW m N l p B N⟩;match j,a with
     |0,a=>cases a;exact ⟨M,cd,_,rfl,by rw[w];rfl⟩
     |1,a=>cases a;exact ⟨M,cd,_,rfl,u.trans x⟩
     |j+2,a=>simp at a
  .cases h
 .cases h
noncomputable def Ry (i j:Nat):JB:=match OE (me i zB)with|.region _ a _=>a.getD j default|_=>default
def Z8(N:Nat)(E:cm)(a:B8 E):nY (U:=U) PP E TT 252 [Lg,.int .i64] [.v ah6] Y (.st (Rv N)):=by have b:∀E:cm,(∀i,E.ro i=Y)->bP PP E TT (Rw N):=λE a=>rJ SS.yG SS.ak a .nil;refine Gc SS.L (X:=Rw N) (ex:=IM (Rw N) [(2,998),(5,Ru)] 2 zB 6 7 ahr .unit (Nk N) .aC) (fn:=f252) (c:=zB) (b E a.ro) au au au cd au (λA d w0 I0 sB r kx Zloc g j s k q Q l h m n=>?_) (Z7 N);obtain⟨w,z,o,p,t⟩:=B7 (P:=PP) (e:=377) au;exact IN SS.L SS.mo g (λ_=>rfl) j (f:=268) (i1:=2) (i2:=3) (e:=377) (o1:=Ry 2 0) (o2:=Ry 3 0) (o3:=Ry 3 1) (ts:=[2,5]) au o p t au au au au au au au au au au cd cd cd (λx q1 φ u v=>Rx (B8.dn a A d) cd u v) au s k q Q l h m n
abbrev acP(N:Nat):b7 U:=⟨[Lg,.int .i64],[.v ah6],Y,.st (Rv N)⟩
def acQ(N:Nat):Holds 252 (acP N):=λE a=>hp au (Z8 N E a)
end Go.Proofs.Mo
